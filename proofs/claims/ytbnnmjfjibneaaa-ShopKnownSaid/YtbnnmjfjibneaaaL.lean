/- Walks of this seat, printed by gen.py over the engine: what each function returns, in whatever world. No conditions but those of each contract. -/
import Derived.Test.YtbnnmjfjibneaaaK
set_option linter.unusedVariables false
set_option linter.unusedSimpArgs false
set_option maxRecDepth 20000
namespace Go.Proofs
open Go.Rt Go.Rt.Sh
attribute [local irreducible] WL WC Con Yd At Ats Sl Agree DW

theorem next_all {w0 : World} {F : List (Nat × Obj)} (m : Market) (p : At3) (mb mm : Nat) (hk : MK w0 F m p mb mm)  (sub bp bl bla bY bs bn : Nat) (hsub : sub < 1000) (h1 : Ats w0 F bp 0 [.pointer (some ⟨mb, 0, none⟩)]) (h5 : Ats w0 F bs 0 [.int .i64 (sub : Int)]) (Ls : List (List Int)) (hnd : Ls.Nodup) (J : Nat → List (Nat × Obj) → Prop) (Js : List (Nat × Obj) → Prop) (yv : Value) (hy : ∀ (i : Nat) (x : List Int) (R : List (List Int)) (B M X : List (Nat × Obj)) (w : World), Ls.drop i = x :: R → J i B → Memo m mm M → St w0 w (X ++ (B ++ (M ++ F))) → FCon Try.prog yv [ia x] w fun v w' => ∃ B' M', Memo m mm M' ∧ St w0 w' (X ++ (B' ++ (M' ++ F))) ∧ (v = .bool true ∧ J (i + 1) B' ∨ v = .bool false ∧ Js B')) (rem : Nat) : NextC m mb mm sub bp bl bla bY bs bn Ls J Js yv w0 F rem := by
  induction rem with
  | zero => exact c95 m p mb mm hk sub bp bl bla bY bs bn hsub h1 h5 Ls hnd J Js yv hy 0 (fun r h => by omega)
  | succ r ih => exact c95 m p mb mm hk sub bp bl bla bY bs bn hsub h1 h5 Ls hnd J Js yv hy (r + 1) (fun q h => by have : q = r := (by omega); subst this; exact ih)
theorem iter_memo {w0 : World} {F : List (Nat × Obj)} {m : Market} {mm : Nat} {Ls : List (List Int)} {J : Nat → List (Nat × Obj) → Prop} {Js : List (Nat × Obj) → Prop} {J0 : Nat → List (Nat × Obj) → Prop} {Js0 : List (Nat × Obj) → Prop} (hJi : ∀ i Bx, J i Bx ↔ ∃ B M, Bx = B ++ M ∧ Memo m mm M ∧ J0 i B) (hJs : ∀ Bx, Js Bx ↔ ∃ B M, Bx = B ++ M ∧ Memo m mm M ∧ Js0 B) {yv : Value}
    (hy : ∀ i (hi : i < (Ls.map ia).length) B X w, J i B → St w0 w (X ++ (B ++ F)) → FCon Try.prog yv [(Ls.map ia)[i]] w fun v w' => ∃ B', St w0 w' (X ++ (B' ++ F)) ∧ (v = .bool true ∧ J (i + 1) B' ∨ v = .bool false ∧ Js B')) :
    ∀ (i : Nat) (x : List Int) (R : List (List Int)) (B M X : List (Nat × Obj)) (w : World), Ls.drop i = x :: R → J0 i B → Memo m mm M → St w0 w (X ++ (B ++ (M ++ F))) → FCon Try.prog yv [ia x] w fun v w' => ∃ B' M', Memo m mm M' ∧ St w0 w' (X ++ (B' ++ (M' ++ F))) ∧ (v = .bool true ∧ J0 (i + 1) B' ∨ v = .bool false ∧ Js0 B') := by
  intro i x R B M X w hd hJ hM hs
  have h := hy i (by simpa using drop_lt hd) (B ++ M) X w ((hJi _ _).2 ⟨B, M, rfl, hM, hJ⟩) (by rw [List.append_assoc]; exact hs)
  rw [List.getElem_map, drop_get1 hd] at h
  refine h.mono ?_
  rintro v w' ⟨Bx, hs', (⟨rfl, hj⟩ | ⟨rfl, hj⟩)⟩
  · obtain ⟨B', M', rfl, hM', hJ'⟩ := (hJi _ _).1 hj
    exact ⟨B', M', hM', by rw [List.append_assoc] at hs'; exact hs', .inl ⟨rfl, hJ'⟩⟩
  · obtain ⟨B', M', rfl, hM', hJ'⟩ := (hJs _).1 hj
    exact ⟨B', M', hM', by rw [List.append_assoc] at hs'; exact hs', .inr ⟨rfl, hJ'⟩⟩
theorem loads_iter {w0 : World} {F : List (Nat × Obj)} (m : Market) (p : At3) (mb mm : Nat) (hk : MK w0 F m p mb mm)  (sub : Nat) (hsub : sub < 1000) (x : List Int) (hgx : GoodX x 0) (bp bs bx : Nat) (h1 : Ats w0 F bp 0 [.pointer (some ⟨mb, 0, none⟩)]) (h5 : Ats w0 F bs 0 [.int .i64 (sub : Int)]) (h3 : Ats w0 F bx 0 (iv x)) : IterC Try.prog 94 [] [.pointer (some ⟨bp, 0, none⟩), .pointer (some ⟨bs, 0, none⟩), .pointer (some ⟨bx, 0, none⟩)] (((loadsX m sub m.trains.length x).map pad6).map ia) w0 F (ClsM (Memo m mm)) := by
  intro J Js hcl yv B X w hyv hy hJ hs
  obtain ⟨J0, Js0, hJi, hJs⟩ := hcl
  obtain ⟨yf, ya, yb, rfl⟩ := hyv
  obtain ⟨B0, M, rfl, hM, hJ0⟩ := (hJi 0 B).1 hJ
  replace hs : St w0 w (X ++ (B0 ++ (M ++ F))) := by rw [List.append_assoc] at hs; exact hs
  have hlt := hk.ok.lt
  have hxl := hgx.len
  show Con Try.prog 94 [.func yf ya yb, .pointer (some ⟨bp, 0, none⟩), .pointer (some ⟨bs, 0, none⟩), .pointer (some ⟨bx, 0, none⟩)] w _
  refine con_of_wc (n := 13) Try.func94 rfl rfl (Nat.le_of_ble_eq_true rfl) ?_
  refine w_seq (fun K2 hK1 => ?_)
  refine w_region ?_
  refine w_box (v := .func _ _ _) (cs := [_]) want_none rfl rfl rfl hs (fun b3 w4 hs5 => ?_)
  refine w_nil ?_
  refine q_then (hK1 _ _ ?_)
  refine w_seq (fun K7 hK6 => ?_)
  refine w_region ?_
  refine w_alloc (cs := iv [0, 0, 0, 0, 0, 0]) want_none Try.zeroValue106 rfl hs5 (fun b8 w9 hs10 => ?_)
  refine w_alloc (cs := iv [0, 0, 0, 0, 0, 0]) want_none Try.zeroValue106 rfl hs10 (fun b11 w12 hs13 => ?_)
  refine w_nil ?_
  refine q_then (hK6 _ _ ?_)
  refine w_seq (fun K15 hK14 => ?_)
  refine w_region ?_
  refine w_pure want_none (y_indexA Try.underlying106 Try.sizeOf3 rfl rfl rfl rfl (i := 0) rfl (by omega)) rfl ?_
  refine w_storeAtI (i := 0) (j := 0) want_none Try.sizeOf3 rfl rfl rfl rfl hs13 rfl (by first | omega | rfl | (simp only [hxl, List.length_map, List.length_set, List.length_append, List.length_take, List.length_drop, List.length_replicate, List.length_cons, List.length_nil] <;> omega)) (fun w16 hs17 => ?_)
  refine w_nil ?_
  refine q_then (hK14 _ _ ?_)
  refine w_seq (fun K19 hK18 => ?_)
  refine w_region ?_
  refine w_alloc (cs := [_]) want_none Try.zeroValue129 rfl hs17 (fun b20 w21 hs22 => ?_)
  refine w_nil ?_
  refine q_then (hK18 _ _ ?_)
  refine w_seq (fun K24 hK23 => ?_)
  refine w_region ?_
  refine w_pure want_none (y_makeFunc (fv := []) (cv := [_, _, _, _, _, _]) rfl rfl rfl rfl) rfl ?_
  refine w_store (i := 0) (v := .func _ _ _) (vs := [_]) want_none Try.sizeOf129 rfl rfl rfl rfl rfl (by simp [Value.oneCell']) hs22 rfl (Nat.le_of_ble_eq_true rfl) (fun w25 hs26 => ?_)
  refine w_nil ?_
  refine q_then (hK23 _ _ ?_)
  refine w_region ?_
  refine w_pure want_none (y_load1 Try.isAgg129 hs26 rfl rfl (ats_own (i := 0) (vs := [_]) rfl rfl)) rfl ?_
  refine w_pure want_none (y_loadN (vs := iv _) Try.isAgg93 (fun w => by rw [show (iv _).length = 8 from (by first | omega | rfl | (simp only [hxl, List.length_map, List.length_set, List.length_append, List.length_take, List.length_drop, List.length_replicate, List.length_cons, List.length_nil] <;> omega))]; exact Try.sizeOf93 w) hs26.tail.tail.tail.tail.drop.drop.drop rfl rfl h3) rfl ?_
  refine w_call want_none Try.call95 rfl rfl rfl rfl (next_all m p mb mm hk sub bp b8 b11 b3 bs b20 hsub h1 h5 ((loadsX m sub m.trains.length x).map pad6) allLoads_nodup J0 Js0 (.func yf ya yb) (iter_memo hJi hJs hy) m.trains.length 0 [] (List.replicate 6 0) [-1, 0, 0, 0, 0, 0] 0 [] x B0 M X _ (by omega) rfl rfl rfl (fun j _ => by match j with | 0 => rfl | 1 => rfl | 2 => rfl | 3 => rfl | 4 => rfl | 5 => rfl | _ + 6 => rfl) hgx (by omega) (by rw [List.append_nil]; rfl) rfl (by rw [List.drop_zero]; exact start_last) hJ0 hM hs26) ?_
  rintro _ w28 ⟨cur2, last2, B2, M2, _, _, _, _, hM2, hs29, hB2⟩
  refine w_nil ?_
  refine q_end (l := []) (vs := []) rfl trivial ?_
  refine ⟨B2 ++ M2, by rw [List.append_assoc]; exact hs29.tail.tail.tail.tail, ?_⟩
  rcases hB2 with ⟨_, i', hi', hd', _, hJ'⟩ | ⟨_, hJ'⟩
  · left; rw [List.length_map, ← drop_done hi' hd']; exact (hJi _ _).2 ⟨B2, M2, rfl, hM2, hJ'⟩
  · exact .inr ((hJs _).2 ⟨B2, M2, rfl, hM2, hJ'⟩)

theorem c75 {w0 w : World} {F : List (Nat × Obj)} (mb : Nat) (x : List Int) (hx8 : x.length = 8) (z : Int) (hs : St w0 w F) :
  Con Try.prog 75 [.pointer (some ⟨mb, 0, none⟩), ia x, .int .i64 z] w fun v w' => ∃ bp bx bs, v = .func (.func 94) #[] #[.pointer (some ⟨bp, 0, none⟩), .pointer (some ⟨bs, 0, none⟩), .pointer (some ⟨bx, 0, none⟩)] ∧ St w0 w' ((bs, blk 3 [.int .i64 z]) :: (bx, blk 93 (iv x)) :: (bp, blk 83 [.pointer (some ⟨mb, 0, none⟩)]) :: F) := by
  refine con_of_wc (n := 8) Try.func75 rfl rfl (Nat.le_of_ble_eq_true rfl) ?_
  refine w_seq (fun K2 hK1 => ?_)
  refine w_region ?_
  refine w_box (v := .pointer _) (cs := [_]) want_none rfl rfl rfl hs (fun b3 w4 hs5 => ?_)
  refine w_boxI (l := _) want_none rfl rfl rfl hs5 (fun b6 w7 hs8 => ?_)
  refine w_box (v := .int _ _) (cs := [_]) want_none rfl rfl rfl hs8 (fun b9 w10 hs11 => ?_)
  refine w_pure want_none (y_assign (v := _) rfl rfl) rfl ?_
  refine w_nil ?_
  refine q_then (hK1 _ _ ?_)
  refine w_seq (fun K13 hK12 => ?_)
  refine w_region ?_
  refine w_pure want_none (y_makeFunc (fv := []) (cv := [_, _, _]) rfl rfl rfl rfl) rfl ?_
  refine w_pure want_none (y_assign (v := .func _ _ _) rfl rfl) rfl ?_
  refine w_nil ?_
  refine q_then (hK12 _ _ ?_)
  refine w_ret ?_
  refine q_ret (l := [.tmp 6]) (vs := [_]) rfl ⟨⟨rfl, show _ = (.func _ _ _ : Value) from rfl⟩, trivial⟩ ?_
  exact ⟨_, _, _, rfl, hs11⟩

end Go.Proofs
