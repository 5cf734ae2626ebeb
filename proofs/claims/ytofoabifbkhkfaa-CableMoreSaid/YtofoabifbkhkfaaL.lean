/- Walks of this seat, printed by gen.py over the engine: what each function returns, in whatever world. No conditions but those of each contract. -/
import Derived.Test.YtofoabifbkhkfaaK
set_option linter.unusedVariables false
set_option linter.unusedSimpArgs false
set_option maxRecDepth 20000
namespace Go.Proofs
open Go.Rt
attribute [local irreducible] WL WC Con Yd At Ats Sl Agree DW

theorem next_all {w0 : World} {F : List (Nat × Obj)} (p : Port) (a : Option Addr) (c m pb : Nat) (hp : Ats w0 F pb 0 [.int .i64 p.hold, .int .i64 p.clo, .int .i64 p.chi, .slice a p.farms.length c, .map (some m)]) (ha : Sl w0 F a 6 (rows p.farms)) (hok : p.Ok) (n below bp bl bla bY bb bn : Nat) (hbe : below ≤ 11) (h1 : Ats w0 F bp 0 [.pointer (some ⟨pb, 0, none⟩)]) (h5 : Ats w0 F bb 0 [.int .i64 (below : Int)]) (hn : n = p.farms.length) (Ls : List (List Int)) (hnd : Ls.Nodup) (J : Nat → List (Nat × Obj) → Prop) (Js : List (Nat × Obj) → Prop) (yv : Value) (hy : ∀ (i : Nat) (x : List Int) (R : List (List Int)) (B X : List (Nat × Obj)) (w : World), Ls.drop i = x :: R → J i B → St w0 w (X ++ (B ++ F)) → FCon Try.prog yv [ia x] w fun v w' => ∃ B', St w0 w' (X ++ (B' ++ F)) ∧ (v = .bool true ∧ J (i + 1) B' ∨ v = .bool false ∧ Js B')) (rem : Nat) : NextC n below bp bl bla bY bb bn Ls J Js yv w0 F rem := by
  induction rem with
  | zero => exact c88 p a c m pb hp ha hok n below bp bl bla bY bb bn hbe h1 h5 hn Ls hnd J Js yv hy 0 (fun r h => by omega)
  | succ r ih => exact c88 p a c m pb hp ha hok n below bp bl bla bY bb bn hbe h1 h5 hn Ls hnd J Js yv hy (r + 1) (fun q h => by have : q = r := (by omega); subst this; exact ih)
theorem rev4 {w0 w : World} {F : List (Nat × Obj)} {x1 x2 x3 x4 : Nat × Obj} (h : St w0 w (x1 :: x2 :: x3 :: x4 :: F)) : St w0 w F := h.tail.tail.tail.tail
theorem iter_lists {w0 : World} {F : List (Nat × Obj)} {Ls : List (List Int)} {J : Nat → List (Nat × Obj) → Prop} {Js : List (Nat × Obj) → Prop} {yv : Value}
    (hy : ∀ i (hi : i < (Ls.map ia).length) B X w, J i B → St w0 w (X ++ (B ++ F)) → FCon Try.prog yv [(Ls.map ia)[i]] w fun v w' => ∃ B', St w0 w' (X ++ (B' ++ F)) ∧ (v = .bool true ∧ J (i + 1) B' ∨ v = .bool false ∧ Js B')) :
    ∀ (i : Nat) (x : List Int) (R : List (List Int)) (B X : List (Nat × Obj)) (w : World), Ls.drop i = x :: R → J i B → St w0 w (X ++ (B ++ F)) → FCon Try.prog yv [ia x] w fun v w' => ∃ B', St w0 w' (X ++ (B' ++ F)) ∧ (v = .bool true ∧ J (i + 1) B' ∨ v = .bool false ∧ Js B') := by
  intro i x R B X w hd hJ hs
  have := hy i (by simpa using drop_lt hd) B X w hJ hs
  rw [List.getElem_map, drop_get hd] at this
  exact this
theorem all_iter {w0 : World} {F : List (Nat × Obj)} (p : Port) (a : Option Addr) (c m pb : Nat) (hp : Ats w0 F pb 0 [.int .i64 p.hold, .int .i64 p.clo, .int .i64 p.chi, .slice a p.farms.length c, .map (some m)]) (ha : Sl w0 F a 6 (rows p.farms)) (hok : p.Ok) (below bp bb : Nat) (hbe : below ≤ 11) (h1 : Ats w0 F bp 0 [.pointer (some ⟨pb, 0, none⟩)]) (h5 : Ats w0 F bb 0 [.int .i64 (below : Int)]) : Iter Try.prog 87 [] [.pointer (some ⟨bp, 0, none⟩), .pointer (some ⟨bb, 0, none⟩)] (((allC below p.farms.length).map pad).map ia) w0 F := by
  intro J Js yv B X w hyv hy hJ hs
  obtain ⟨yf, ya, yb, rfl⟩ := hyv
  have hlen3 := hok.len
  show Con Try.prog 87 [.func yf ya yb, .pointer (some ⟨bp, 0, none⟩), .pointer (some ⟨bb, 0, none⟩)] w _
  refine con_of_wc (n := 11) Try.func87 rfl rfl (Nat.le_of_ble_eq_true rfl) ?_
  refine w_seq (fun K2 hK1 => ?_)
  refine w_region ?_
  refine w_box (v := .func _ _ _) (cs := [_]) want_none rfl rfl rfl hs (fun b3 w4 hs5 => ?_)
  refine w_nil ?_
  refine q_then (hK1 _ _ ?_)
  refine w_seq (fun K7 hK6 => ?_)
  refine w_region ?_
  refine w_alloc (cs := iv [0, 0, 0]) want_none Try.zeroValue83 rfl hs5 (fun b8 w9 hs10 => ?_)
  refine w_alloc (cs := iv [0, 0, 0]) want_none Try.zeroValue83 rfl hs10 (fun b11 w12 hs13 => ?_)
  refine w_nil ?_
  refine q_then (hK6 _ _ ?_)
  refine w_seq (fun K15 hK14 => ?_)
  refine w_region ?_
  refine w_pure want_none (y_indexA Try.underlying83 Try.sizeOf3 rfl rfl rfl rfl (i := 0) rfl (by omega)) rfl ?_
  refine w_storeAtI (i := 0) (j := 0) want_none Try.sizeOf3 rfl rfl rfl rfl hs13 rfl (by first | omega | rfl | (simp only [List.length_map, List.length_set, List.length_append, List.length_take, List.length_drop, List.length_replicate, List.length_cons, List.length_nil] <;> omega)) (fun w16 hs17 => ?_)
  refine w_nil ?_
  refine q_then (hK14 _ _ ?_)
  refine w_seq (fun K19 hK18 => ?_)
  refine w_region ?_
  refine w_alloc (cs := [_]) want_none Try.zeroValue111 rfl hs17 (fun b20 w21 hs22 => ?_)
  refine w_nil ?_
  refine q_then (hK18 _ _ ?_)
  refine w_seq (fun K24 hK23 => ?_)
  refine w_region ?_
  refine w_pure want_none (y_makeFunc (fv := []) (cv := [_, _, _, _, _, _]) rfl rfl rfl rfl) rfl ?_
  refine w_store (i := 0) (v := .func _ _ _) (vs := [_]) want_none Try.sizeOf111 rfl rfl rfl rfl rfl (by simp [Value.oneCell']) hs22 rfl (Nat.le_of_ble_eq_true rfl) (fun w25 hs26 => ?_)
  refine w_nil ?_
  refine q_then (hK23 _ _ ?_)
  refine w_region ?_
  refine w_pure want_none (y_load1 Try.isAgg111 hs26 rfl rfl (ats_own (i := 0) (vs := [_]) rfl rfl)) rfl ?_
  refine w_call want_none Try.call88 rfl rfl rfl rfl (next_all p a c m pb hp ha hok p.farms.length below bp b8 b11 b3 bb b20 hbe h1 h5 rfl ((allC below p.farms.length).map pad) (allpad_nodup hlen3) J Js (.func yf ya yb) (iter_lists hy) p.farms.length 0 [] (List.replicate 3 0) [-2, 0, 0] 0 [] B X _ (by omega) rfl rfl rfl (fun j _ => by match j with | 0 => rfl | 1 => rfl | 2 => rfl | _ + 3 => rfl) (by omega) (by rw [List.append_nil]; rfl) rfl (by rw [List.drop_zero]; exact start_notin) hJ hs26) ?_
  rintro _ w28 ⟨cur2, last2, B2, _, _, _, _, hs29, hB2⟩
  refine w_nil ?_
  refine q_end (l := []) (vs := []) rfl trivial ?_
  refine ⟨B2, hs29.tail.tail.tail.tail, ?_⟩
  rcases hB2 with ⟨_, i', hi', hd', _, hJ'⟩ | ⟨_, hJ'⟩
  · left; rw [List.length_map, ← drop_done hi' hd']; exact hJ'
  · exact .inr hJ'

end Go.Proofs
