/- Walks of this seat, printed by gen.py over the engine: what each function returns, in whatever world. No conditions but those of each contract. -/
import Derived.Test.YtofoabifbkhkfaaL
import Derived.Test.YtofoabifbkhkfaaCSpec7
set_option linter.unusedVariables false
set_option linter.unusedSimpArgs false
set_option maxRecDepth 20000
namespace Go.Proofs
open Go.Rt
attribute [local irreducible] WL WC Con Yd At Ats Sl Agree DW
theorem Try_M_fb6  (w : World) : (Instr.build 89 [].toArray).run Try.prog w = .ok (.agg #[.int .i64 0, .int .i64 0, .int .i64 0]) w := by kernel_rfl
theorem Try_flat89 : flatInts Try.prog 89 3 = true := by kernel_rfl
theorem c66 {w0 w : World} {F : List (Nat × Obj)} (pb : Nat) (z : Int) (hs : St w0 w F) :
  Con Try.prog 66 [.pointer (some ⟨pb, 0, none⟩), .int .i64 z] w fun v w' => ∃ bp bb, v = .func (.func 87) #[] #[.pointer (some ⟨bp, 0, none⟩), .pointer (some ⟨bb, 0, none⟩)] ∧ St w0 w' ((bb, blk 3 [.int .i64 z]) :: (bp, blk 81 [.pointer (some ⟨pb, 0, none⟩)]) :: F) := by
  refine con_of_wc (n := 6) Try.func66 rfl rfl (Nat.le_of_ble_eq_true rfl) ?_
  refine w_seq (fun K2 hK1 => ?_)
  refine w_region ?_
  refine w_box (v := .pointer _) (cs := [_]) want_none rfl rfl rfl hs (fun b3 w4 hs5 => ?_)
  refine w_box (v := .int _ _) (cs := [_]) want_none rfl rfl rfl hs5 (fun b6 w7 hs8 => ?_)
  refine w_pure want_none (y_assign (v := _) rfl rfl) rfl ?_
  refine w_nil ?_
  refine q_then (hK1 _ _ ?_)
  refine w_seq (fun K10 hK9 => ?_)
  refine w_region ?_
  refine w_pure want_none (y_makeFunc (fv := []) (cv := [_, _]) rfl rfl rfl rfl) rfl ?_
  refine w_pure want_none (y_assign (v := .func _ _ _) rfl rfl) rfl ?_
  refine w_nil ?_
  refine q_then (hK9 _ _ ?_)
  refine w_ret ?_
  refine q_ret (l := [.tmp 4]) (vs := [_]) rfl ⟨⟨rfl, show _ = (.func _ _ _ : Value) from rfl⟩, trivial⟩ ?_
  exact ⟨_, _, rfl, hs8⟩

theorem c60 {w0 w : World} {F : List (Nat × Obj)} (pb : Nat) (hs : St w0 w F) :
  Con Try.prog 60 [.pointer (some ⟨pb, 0, none⟩)] w fun v w' => ∃ bq, v = .func (.func 86) #[] #[.pointer (some ⟨bq, 0, none⟩)] ∧ St w0 w' ((bq, blk 81 [.pointer (some ⟨pb, 0, none⟩)]) :: F) := by
  refine con_of_wc (n := 4) Try.func60 rfl rfl (Nat.le_of_ble_eq_true rfl) ?_
  refine w_seq (fun K2 hK1 => ?_)
  refine w_region ?_
  refine w_box (v := .pointer _) (cs := [_]) want_none rfl rfl rfl hs (fun b3 w4 hs5 => ?_)
  refine w_pure want_none (y_assign (v := _) rfl rfl) rfl ?_
  refine w_nil ?_
  refine q_then (hK1 _ _ ?_)
  refine w_seq (fun K7 hK6 => ?_)
  refine w_region ?_
  refine w_pure want_none (y_makeFunc (fv := []) (cv := [_]) rfl rfl rfl rfl) rfl ?_
  refine w_pure want_none (y_assign (v := .func _ _ _) rfl rfl) rfl ?_
  refine w_nil ?_
  refine q_then (hK6 _ _ ?_)
  refine w_ret ?_
  refine q_ret (l := [.tmp 2]) (vs := [_]) rfl ⟨⟨rfl, show _ = (.func _ _ _ : Value) from rfl⟩, trivial⟩ ?_
  exact ⟨_, rfl, hs5⟩

theorem does_perm {x y z : Nat × Obj} (X B F : List (Nat × Obj)) : (x :: y :: z :: (X ++ (B ++ F))).Perm ((z :: B) ++ (x :: y :: (X ++ F))) :=
  (List.Perm.cons x (List.Perm.cons y (List.Perm.cons z (perm_mid X B F)))).trans (perm_mid [x, y] (z :: B) (X ++ F))
theorem bi {a b : Bool} {c d : Int} (h : a = b) (k : c = d) : [Value.bool a, Value.int .i64 c] = [Value.bool b, Value.int .i64 d] := by rw [h, k]
theorem does_back {w0 w : World} {x y : Nat × Obj} {X B F : List (Nat × Obj)} (h : St w0 w (B ++ (x :: y :: (X ++ F)))) : St w0 w (X ++ (B ++ F)) := by
  have h1 := (h.perm (perm_mid B [x, y] (X ++ F))).tail.tail
  exact St.perm (L := B ++ (X ++ F)) h1 (perm_mid B X F)
theorem y_call {w0 w : World} {F Y B Xr X : List (Nat × Obj)} {u v : Nat × Obj} {Ls : List (List Int)} {J : Nat → List (Nat × Obj) → Prop} {Js : List (Nat × Obj) → Prop} {yv : Value}
    (hy : ∀ (i : Nat) (x : List Int) (R : List (List Int)) (B X : List (Nat × Obj)) (w : World), Ls.drop i = x :: R → J i B → St w0 w (X ++ (B ++ F)) → FCon Try.prog yv [ia x] w fun v w' => ∃ B', St w0 w' (X ++ (B' ++ F)) ∧ (v = .bool true ∧ J (i + 1) B' ∨ v = .bool false ∧ Js B'))
    {i : Nat} {x : List Int} {R : List (List Int)} (hd : Ls.drop i = x :: R) (hJ : J i B) (hs : St w0 w (Y ++ (B ++ (Xr ++ (u :: v :: (X ++ F)))))) :
    FCon Try.prog yv [ia x] w fun r w' => ∃ B', St w0 w' (Y ++ (B' ++ (Xr ++ (u :: v :: (X ++ F))))) ∧ (r = .bool true ∧ J (i + 1) B' ∨ r = .bool false ∧ Js B') := by
  have key : ∀ B : List (Nat × Obj), (Y ++ (B ++ (Xr ++ (u :: v :: (X ++ F))))).Perm ((Y ++ (Xr ++ (u :: v :: X))) ++ (B ++ F)) := by
    intro B
    have e : B ++ (Xr ++ (u :: v :: (X ++ F))) = B ++ ((Xr ++ (u :: v :: X)) ++ F) := by simp
    rw [e, List.append_assoc Y]
    exact List.Perm.append_left Y (perm_mid B (Xr ++ (u :: v :: X)) F)
  refine (hy i x R B _ w hd hJ (hs.perm (key B))).mono ?_
  rintro r w' ⟨B', hs', h⟩
  exact ⟨B', hs'.perm (key B').symm, h⟩
theorem does_iter {w0 : World} {F : List (Nat × Obj)} (p : Port) (a : Option Addr) (c m pb : Nat) (hp : Ats w0 F pb 0 [.int .i64 p.hold, .int .i64 p.clo, .int .i64 p.chi, .slice a p.farms.length c, .map (some m)]) (ha : Sl w0 F a 6 (rows p.farms)) (hok : p.Ok) (b1 : Nat) (h1 : Ats w0 F b1 0 [.pointer (some ⟨pb, 0, none⟩)]) : Iter Try.prog 86 [] [.pointer (some ⟨b1, 0, none⟩)] (((doC p).map pad).map ia) w0 F := by
  intro J Js yv B X w hyv hy0 hJ hs
  have hy := iter_lists hy0
  obtain ⟨yf, ya, yb, rfl⟩ := hyv
  have hlen3 := hok.len
  have hcome := hok.come
  show Con Try.prog 86 [.func yf ya yb, .pointer (some ⟨b1, 0, none⟩)] w _
  refine con_of_wcM (n := 53) Try.func86 rfl rfl (Nat.le_of_ble_eq_true rfl) ?_
  refine w_seq (fun K2 hK1 => ?_)
  refine w_region ?_
  refine w_box (v := .func _ _ _) (cs := [_]) want_none rfl rfl rfl hs (fun b3 w4 hs5 => ?_)
  refine w_nil ?_
  refine q_then (hK1 _ _ ?_)
  refine w_seq (fun K7 hK6 => ?_)
  refine w_region ?_
  refine w_pure want_none (y_load1 Try.isAgg81 hs5.tail.drop.drop rfl rfl h1) rfl ?_
  refine w_call want_none Try.call66 rfl rfl rfl rfl (c66 _ _ hs5) ?_
  rintro _ w9 ⟨bp, bb, rfl, hs10⟩
  refine w_nil ?_
  refine q_then (hK6 _ _ ?_)
  refine w_block ?_
  refine w_range (_ :: B) (fun i Bx => ∃ B', Bx = (b3, blk 122 [.func yf ya yb]) :: B' ∧ J (((allC 11 p.farms.length).take i).filter fun l => full p l).length B') (fun c Bx => c = .ret ∧ ∃ B', Bx = (b3, blk 122 [.func yf ya yb]) :: B' ∧ Js B') rfl rfl rfl Try.call87 (all_iter p a c m pb hp.app.cons.cons ha.app.cons.cons hok 11 bp bb (by omega) (ats_own (i := 1) (vs := [_]) rfl rfl) (ats_own (i := 0) (vs := [_]) rfl rfl)) hs10 (does_perm X B F) ⟨B, rfl, hJ⟩ ?_ ?_ ?_
  ·
    intro lp i hi Bx Xr Xr2 w12 hJ hs K hK11
    obtain ⟨B1, rfl, hJ1⟩ := hJ
    have hi2 : i < (allC 11 p.farms.length).length := by simpa using hi
    rw [List.getElem_map, List.getElem_map]
    have hlen := pad_len (allC 11 p.farms.length)[i]
    have hl1 := allpad_in (by omega) hi2
    have hfp := full_pad (p := p) (all_len2 hi2) hlen3
    obtain ⟨l, hl⟩ : ∃ l, l = pad (allC 11 p.farms.length)[i] := ⟨_, rfl⟩
    rw [← hl] at hlen hl1 hfp ⊢
    replace hs := (show St _ _ (_ :: (B1 ++ (Xr ++ (_ :: _ :: (X ++ F))))) from hs)
    refine w_region ?_
    refine w_alloc (cs := iv [0, 0, 0]) want_none Try.zeroValue83 rfl hs (fun b13 w14 hs15 => ?_)
    refine w_storeI (i := 0) (l := _) want_none Try.sizeOf83 (by first | omega | rfl | (simp only [pad_len, List.length_map, List.length_set, List.length_append, List.length_take, List.length_drop, List.length_replicate, List.length_cons, List.length_nil] <;> omega)) rfl rfl rfl rfl rfl hs15 rfl (by first | omega | rfl | (simp only [pad_len, List.length_map, List.length_set, List.length_append, List.length_take, List.length_drop, List.length_replicate, List.length_cons, List.length_nil] <;> omega)) (fun w16 hs17 => ?_)
    refine w_nil ?_
    refine q_then (hK11 _ _ (_ :: _ :: B1) hs17 (fun w18 hs19 => ?_))
    replace hs19 := (show St _ _ (_ :: _ :: B1 ++ (Xr2 ++ (_ :: _ :: X ++ (F)))) from hs19)
    refine w_block ?_
    refine w_seq (fun K21 hK20 => ?_)
    refine w_region ?_
    refine w_pure want_none (y_assign (v := _) rfl rfl) rfl ?_
    refine w_nil ?_
    refine q_then (hK20 _ _ ?_)
    refine w_seq (fun K23 hK22 => ?_)
    refine w_seq (fun K25 hK24 => ?_)
    refine w_region ?_
    refine w_pure want_none (y_load1 Try.isAgg81 hs19.tail.tail.drop.drop.tail.tail.drop rfl rfl h1) rfl ?_
    refine w_pure want_none (y_nilCheck rfl rfl) rfl ?_
    refine w_pure want_none (y_fieldAddr (o := 0) (i := 0) Try.underlying119 rfl Try.sizeOf26 rfl rfl rfl) rfl ?_
    refine w_pure want_none (y_fieldAddr (o := 1) (i := 1) Try.underlying26 rfl Try.sizeOf23 rfl rfl rfl) rfl ?_
    refine w_pure want_none (y_fieldAddr (o := 0) (i := 0) Try.underlying23 rfl Try.sizeOf3 rfl rfl rfl) rfl ?_
    refine w_pure want_none (y_load1 Try.isAgg3 hs19.tail.tail.drop.drop.tail.tail.drop rfl rfl (show Ats _ _ _ _ [_] from Ats.part hp 1 1)) rfl ?_
    refine w_pure want_none (y_assign (v := .int _ _) rfl rfl) rfl ?_
    refine w_nil ?_
    refine q_then (hK24 _ _ ?_)
    refine w_block ?_
    refine w_loop [4, 5, 6, 16, 17, 18, 19, 20, 21, 22, 23, 24, 25, 26, 27, 28, 29, 30, 31, 32, 33, 34, 35, 36, 37, 38, 39, 40, 41, 42, 43, 44, 45] [4, 5] (fun k vs w => ∃ (q : Nat), vs = [.bool (fullUpto p l q), .int .i64 (p.clo + q)] ∧ (q : Int) ≤ p.chi - p.clo + 1 ∧ k = (p.chi - p.clo + 1 - q).toNat ∧ St w0 w ((b13, blk 83 (iv l)) :: (b3, blk 122 [.func yf ya yb]) :: (B1 ++ (Xr2 ++ ((bb, blk 3 [.int .i64 11]) :: (bp, blk 81 [.pointer (some ⟨pb, 0, none⟩)]) :: (X ++ F)))))) ((p.chi - p.clo + 1).toNat) ?_ ?_
    ·
      exact ⟨0, bi (show true = fullUpto p l 0 by simp [fullUpto]) (by omega), by omega, by simp, hs19⟩
    ·
      intro k vs μ w28 hI K27 hN26
      obtain ⟨q, rfl, hq, rfl, hs⟩ := hI
      generalize hfu : fullUpto p l q = fu
      refine w_seq (fun K30 hK29 => ?_)
      refine w_seq (fun K32 hK31 => ?_)
      refine w_region ?_
      refine w_pure want_none (y_move (v := .bool _) rfl rfl) rfl ?_
      refine w_pure want_none (y_move (v := .bool _) rfl rfl) rfl ?_
      refine w_split (fun h33 => ?_) (fun h33 => ?_)
      ·
        subst h33
        refine w_pure (want_yes rfl rfl rfl) (y_move (v := .int _ _) rfl rfl) rfl ?_
        refine w_pure (want_yes rfl rfl rfl) (y_load1 Try.isAgg81 hs.tail.tail.drop.drop.tail.tail.drop rfl rfl h1) rfl ?_
        refine w_pure (want_yes rfl rfl rfl) (y_nilCheck rfl rfl) rfl ?_
        refine w_pure (want_yes rfl rfl rfl) (y_fieldAddr (o := 0) (i := 0) Try.underlying119 rfl Try.sizeOf26 rfl rfl rfl) rfl ?_
        refine w_pure (want_yes rfl rfl rfl) (y_fieldAddr (o := 1) (i := 1) Try.underlying26 rfl Try.sizeOf23 rfl rfl rfl) rfl ?_
        refine w_pure (want_yes rfl rfl rfl) (y_fieldAddr (o := 1) (i := 1) Try.underlying23 rfl Try.sizeOf3 rfl rfl rfl) rfl ?_
        refine w_pure (want_yes rfl rfl rfl) (y_load1 Try.isAgg3 hs.tail.tail.drop.drop.tail.tail.drop rfl rfl (show Ats _ _ _ _ [_] from Ats.part hp 2 1)) rfl ?_
        refine w_pure (want_yes rfl rfl rfl) (y_leq rfl rfl rfl rfl) rfl ?_
        refine w_pure want_none (y_pickT (v := .bool _) rfl rfl rfl rfl) rfl ?_
        refine w_nil ?_
        refine q_then (hK31 _ _ ?_)
        refine w_cond rfl rfl (fun h34 => ?_) (fun h34 => ?_)
        ·
          try simp only [Bool.not_eq_true', Bool.not_eq_false', decide_eq_true_eq, decide_eq_false_iff_not, Int.not_lt, Int.not_le] at h34
          refine w_skip ?_
          refine q_then (hK29 _ _ ?_)
          refine w_seq (fun K36 hK35 => ?_)
          refine w_block ?_
          refine w_seq (fun K38 hK37 => ?_)
          refine w_region ?_
          refine w_pure want_none (y_load1 Try.isAgg81 hs.tail.tail.drop.drop.tail.tail.drop rfl rfl h1) rfl ?_
          refine w_pure want_none (y_loadI (i := 0) Try.isAgg83 Try.sizeOf83 (by first | omega | rfl | (simp only [pad_len, List.length_map, List.length_set, List.length_append, List.length_take, List.length_drop, List.length_replicate, List.length_cons, List.length_nil] <;> omega)) hs rfl rfl rfl) rfl ?_
          refine w_pure want_none (y_move (v := .int _ _) rfl rfl) rfl ?_
          refine w_call want_none Try.call84 rfl rfl rfl rfl (c84 p _ c m pb hp.app.cons.cons.app.app.cons.cons ha.app.cons.cons.app.app.cons.cons hok l hlen hl1 _ (by omega) (by omega) hs) ?_
          rintro _ w40 ⟨rfl, hs41⟩
          refine w_alloc (cs := [_, _, _]) want_none Try.zeroValue89 rfl hs41 (fun b42 w43 hs44 => ?_)
          refine w_store (i := 0) (v := .agg #[.int _ _, .int _ _, .int _ _]) (vs := [_, _, _]) want_none Try.sizeOf89 rfl rfl rfl rfl rfl (by simp [Value.oneCell']) hs44 rfl (Nat.le_of_ble_eq_true rfl) (fun w45 hs46 => ?_)
          refine w_nil ?_
          refine q_then (hK37 _ _ ?_)
          refine w_draw [] [(0, 1), (1, 0), (2, 0), (3, 0), (4, 0), (5, 1), (6, 1), (7, 0), (8, 0), (9, 0), (10, 1), (11, 0), (12, 0), (13, 0)] Try_mo (by kernel_rfl) hs46 (fun w47 hs48 => ?_)
          refine d_take rfl want_none rfl hs48 (fun _ hq => (y_loadN (vs := [_, _, _]) Try.isAgg89 Try.sizeOf89 hq rfl rfl (ats_own (i := 0) (vs := [_, _, _]) rfl rfl))) ?_
          refine d_any rfl want_none rfl (fun _ => (y_build (ps := []) (pv := []) rfl rfl (fun w => Try_M_fb6  w))) ?_
          refine d_any rfl want_none rfl (fun _ => (y_neFlat (l := [_, _, _]) (m := [_, _, _]) Try.eqGuardType89 Try_flat89 (by first | omega | rfl | (simp only [pad_len, List.length_map, List.length_set, List.length_append, List.length_take, List.length_drop, List.length_replicate, List.length_cons, List.length_nil] <;> omega)) (by first | omega | rfl | (simp only [pad_len, List.length_map, List.length_set, List.length_append, List.length_take, List.length_drop, List.length_replicate, List.length_cons, List.length_nil] <;> omega)) rfl rfl rfl rfl rfl rfl)) ?_
          refine d_any rfl want_none rfl (fun _ => (y_move (v := .bool _) rfl rfl)) ?_
          refine d_split (fun h49 => ?_) (fun h49 => ?_)
          ·
            try simp only [Bool.not_eq_true', Bool.not_eq_false', decide_eq_true_eq, decide_eq_false_iff_not, Int.not_lt, Int.not_le] at h49
            refine d_any rfl (want_yes rfl rfl rfl) rfl (fun _ => (y_fieldAddr (o := 0) (i := 0) Try.underlying89 rfl Try.sizeOf3 rfl rfl rfl)) ?_
            refine d_take rfl (want_yes rfl rfl rfl) rfl hs48 (fun _ hq => (y_load1 Try.isAgg3 hq rfl rfl (ats_own (i := 0) (vs := [_]) rfl rfl))) ?_
            refine d_take rfl (want_yes rfl rfl rfl) rfl hs48 (fun _ hq => (y_load1 Try.isAgg81 hq.tail.tail.tail.drop.drop.tail.tail.drop rfl rfl h1)) ?_
            refine d_any rfl (want_yes rfl rfl rfl) rfl (fun _ => (y_nilCheck rfl rfl)) ?_
            refine d_any rfl (want_yes rfl rfl rfl) rfl (fun _ => (y_fieldAddr (o := 0) (i := 0) Try.underlying119 rfl Try.sizeOf26 rfl rfl rfl)) ?_
            refine d_any rfl (want_yes rfl rfl rfl) rfl (fun _ => (y_fieldAddr (o := 0) (i := 0) Try.underlying26 rfl Try.sizeOf3 rfl rfl rfl)) ?_
            refine d_take rfl (want_yes rfl rfl rfl) rfl hs48 (fun _ hq => (y_load1 Try.isAgg3 hq.tail.tail.tail.drop.drop.tail.tail.drop rfl rfl (show Ats _ _ _ _ [_] from Ats.part hp 0 1))) ?_
            refine d_any rfl (want_yes rfl rfl rfl) rfl (fun _ => (y_geq rfl rfl rfl rfl)) ?_
            refine d_any rfl want_none rfl (fun _ => (y_pickT (v := .bool _) rfl rfl rfl rfl)) ?_
            refine d_any rfl want_none rfl (fun _ => (y_assign (v := .bool _) rfl rfl)) ?_
            refine d_nil ?_
            refine q_blk_normal ?_
            refine q_then (hK35 _ _ ?_)
            refine w_region ?_
            refine w_pure want_none (y_move (v := .int _ _) rfl rfl) rfl ?_
            refine w_pure want_none (y_add rfl rfl rfl rfl (by omega) (by omega)) rfl ?_
            refine w_pure want_none (y_assign (v := .int _ _) rfl rfl) rfl ?_
            refine w_nil ?_
            refine q_then (hN26 _ _ (Nx.intro ((p.chi - p.clo + 1 - (q + 1 : Nat)).toNat) (by omega) (by repeat (first | exact agree_mix | refine agree_upd rfl ?_ | refine agree_updL rfl ?_ _ | refine agree_mixin rfl ?_)) ?_))
            first
              | exact ⟨q + 1, bi (by rw [fullUpto_succ l (by omega), zero_least hok (x := on p.farms l (p.clo + q)) (by assumption)]; simp) (by omega), by omega, rfl, hs48.tail⟩
              | exact ⟨q + 1, bi (by rw [fullUpto_succ l (by omega), hfu]; simp) (by omega), by omega, rfl, hs48.tail⟩
          ·
            try simp only [Bool.not_eq_true', Bool.not_eq_false', decide_eq_true_eq, decide_eq_false_iff_not, Int.not_lt, Int.not_le] at h49
            refine d_skip rfl rfl rfl rfl ?_
            refine d_skip1 rfl rfl rfl rfl hs48 ?_
            refine d_skip1 rfl rfl rfl rfl hs48 ?_
            refine d_skip rfl rfl rfl rfl ?_
            refine d_skip rfl rfl rfl rfl ?_
            refine d_skip rfl rfl rfl rfl ?_
            refine d_skip1 rfl rfl rfl rfl hs48 ?_
            refine d_skip rfl rfl rfl rfl ?_
            refine d_any rfl want_none rfl (fun _ => (y_pickF (v := _) rfl rfl rfl rfl)) ?_
            refine d_any rfl want_none rfl (fun _ => (y_assign (v := .bool _) rfl rfl)) ?_
            refine d_nil ?_
            refine q_blk_normal ?_
            refine q_then (hK35 _ _ ?_)
            refine w_region ?_
            refine w_pure want_none (y_move (v := .int _ _) rfl rfl) rfl ?_
            refine w_pure want_none (y_add rfl rfl rfl rfl (by omega) (by omega)) rfl ?_
            refine w_pure want_none (y_assign (v := .int _ _) rfl rfl) rfl ?_
            refine w_nil ?_
            refine q_then (hN26 _ _ (Nx.intro ((p.chi - p.clo + 1 - (q + 1 : Nat)).toNat) (by omega) (by repeat (first | exact agree_mix | refine agree_upd rfl ?_ | refine agree_updL rfl ?_ _ | refine agree_mixin rfl ?_)) ?_))
            first
              | exact ⟨q + 1, bi (by rw [fullUpto_succ l (by omega), zero_least hok (x := on p.farms l (p.clo + q)) (by assumption)]; simp) (by omega), by omega, rfl, hs48.tail⟩
              | exact ⟨q + 1, bi (by rw [fullUpto_succ l (by omega), hfu]; simp) (by omega), by omega, rfl, hs48.tail⟩
        ·
          try simp only [Bool.not_eq_true', Bool.not_eq_false', decide_eq_true_eq, decide_eq_false_iff_not, Int.not_lt, Int.not_le] at h34
          refine w_exit ?_
          refine q_then_exit ?_
          refine q_then_exit ?_
          refine q_blk_this ?_
          refine q_then (hK22 _ _ ?_)
          refine w_seq (fun K51 hK50 => ?_)
          refine w_region ?_
          refine w_pure want_none (y_move (v := .bool _) rfl rfl) rfl ?_
          refine w_pure want_none (y_move (v := .bool _) rfl rfl) rfl ?_
          refine w_pure (want_yes rfl rfl rfl) (y_load1 Try.isAgg122 hs rfl rfl (ats_own (i := 1) (vs := [_]) rfl rfl)) rfl ?_
          refine w_pure (want_yes rfl rfl rfl) (y_loadI (i := 0) Try.isAgg83 Try.sizeOf83 (by first | omega | rfl | (simp only [pad_len, List.length_map, List.length_set, List.length_append, List.length_take, List.length_drop, List.length_replicate, List.length_cons, List.length_nil] <;> omega)) hs rfl rfl rfl) rfl ?_
          refine w_callV (want_yes rfl rfl rfl) rfl rfl rfl rfl (y_call (Y := [_, _]) hy (R := (((allC 11 p.farms.length).drop (i + 1)).filter fun l => full p l).map pad) (by rw [hl, ← List.map_drop, doC, filter_here hi2 (hfp.symm.trans (by rw [← fullUpto_all l (i := q) (by omega)]; exact hfu))]; rfl) hJ1 hs) ?_
          rintro _ w53 ⟨B2, hs54, (⟨rfl, hJ2⟩ | ⟨rfl, hJ2⟩)⟩
          ·
            replace hs54 := (show St _ _ (_ :: _ :: B2 ++ (Xr2 ++ (_ :: _ :: X ++ (F)))) from hs54)
            refine w_pure (want_yes rfl rfl rfl) (y_not rfl rfl) rfl ?_
            refine w_pure want_none (y_pickT (v := .bool _) rfl rfl rfl rfl) rfl ?_
            refine w_nil ?_
            refine q_then (hK50 _ _ ?_)
            refine w_condF rfl rfl ?_
            refine w_skip ?_
            refine q_blk_normal ?_
            refine rd_normal (_ :: B2) hs54.tail ?_
            first
              | exact ⟨B2, rfl, by rw [filter_yes hi2 (hfp.symm.trans (by rw [← fullUpto_all l (i := q) (by omega)]; exact hfu))]; exact hJ2⟩
              | exact ⟨B1, rfl, by rw [filter_no hi2 (hfp.symm.trans (full_false l hfu))]; exact hJ1⟩
          ·
            replace hs54 := (show St _ _ (_ :: _ :: B2 ++ (Xr2 ++ (_ :: _ :: X ++ (F)))) from hs54)
            refine w_pure (want_yes rfl rfl rfl) (y_not rfl rfl) rfl ?_
            refine w_pure want_none (y_pickT (v := .bool _) rfl rfl rfl rfl) rfl ?_
            refine w_nil ?_
            refine q_then (hK50 _ _ ?_)
            refine w_condT rfl rfl ?_
            refine w_ret ?_
            refine q_blk_ret ?_
            refine rd_ret (_ :: B2) hs54.tail ?_
            exact ⟨rfl, B2, rfl, hJ2⟩
      ·
        subst h33
        refine w_skipop rfl rfl rfl ?_
        refine w_skipop rfl rfl rfl ?_
        refine w_skipop rfl rfl rfl ?_
        refine w_skipop rfl rfl rfl ?_
        refine w_skipop rfl rfl rfl ?_
        refine w_skipop rfl rfl rfl ?_
        refine w_skipop rfl rfl rfl ?_
        refine w_skipop rfl rfl rfl ?_
        refine w_pure want_none (y_pickF (v := _) rfl rfl rfl rfl) rfl ?_
        refine w_nil ?_
        refine q_then (hK31 _ _ ?_)
        refine w_condF rfl rfl ?_
        refine w_exit ?_
        refine q_then_exit ?_
        refine q_then_exit ?_
        refine q_blk_this ?_
        refine q_then (hK22 _ _ ?_)
        refine w_seq (fun K56 hK55 => ?_)
        refine w_region ?_
        refine w_pure want_none (y_move (v := .bool _) rfl rfl) rfl ?_
        refine w_pure want_none (y_move (v := .bool _) rfl rfl) rfl ?_
        refine w_skipop rfl rfl rfl ?_
        refine w_skipop rfl rfl rfl ?_
        refine w_skipop rfl rfl rfl ?_
        refine w_skipop rfl rfl rfl ?_
        refine w_pure want_none (y_pickF (v := _) rfl rfl rfl rfl) rfl ?_
        refine w_nil ?_
        refine q_then (hK55 _ _ ?_)
        refine w_condF rfl rfl ?_
        refine w_skip ?_
        refine q_blk_normal ?_
        refine rd_normal (_ :: B1) hs.tail ?_
        first
          | exact ⟨B2, rfl, by rw [filter_yes hi2 (hfp.symm.trans (by rw [← fullUpto_all l (i := q) (by omega)]; exact hfu))]; exact hJ2⟩
          | exact ⟨B1, rfl, by rw [filter_no hi2 (hfp.symm.trans (full_false l hfu))]; exact hJ1⟩
  ·
    intro bd Bx w57 hJ hs
    obtain ⟨B1, rfl, hJ1⟩ := hJ
    refine q_blk_normal ?_
    refine q_endM (i := 0) (l := []) (vs := []) hs rfl rfl (fun w58 hs59 => ⟨trivial, ?_⟩)
    first
      | exact ⟨B1, does_back hs59.tail.tail, .inl (by rw [List.length_map, List.length_map] at *; rw [List.take_length] at hJ1; exact hJ1)⟩
      | exact ⟨B1, does_back hs59.tail.tail, .inr hJ1⟩
  ·
    intro bd c Bx w60 hJ hs
    obtain ⟨rfl, B1, rfl, hJ1⟩ := hJ
    refine w_ret ?_
    refine q_blk_ret ?_
    refine q_retM (i := 0) (l := []) (vs := []) hs rfl rfl (fun w61 hs62 => ⟨trivial, ?_⟩)
    first
      | exact ⟨B1, does_back hs62.tail.tail, .inl (by rw [List.length_map, List.length_map] at *; rw [List.take_length] at hJ1; exact hJ1)⟩
      | exact ⟨B1, does_back hs62.tail.tail, .inr hJ1⟩

end Go.Proofs
