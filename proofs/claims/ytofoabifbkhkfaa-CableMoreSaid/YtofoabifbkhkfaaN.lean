/- Walks of this seat, printed by gen.py over the engine: what each function returns, in whatever world. No conditions but those of each contract. -/
import Derived.Test.YtofoabifbkhkfaaM
import Derived.Test.YtofoabifbkhkfaaCSpec8
set_option linter.unusedVariables false
set_option linter.unusedSimpArgs false
set_option maxRecDepth 20000
namespace Go.Proofs
open Go.Rt
attribute [local irreducible] WL WC Con Yd At Ats Sl Agree DW
theorem Try_N_fb7 (x0 : Int) (x1 : Int) (w : World) : (Instr.build 100 [(0, .int .i64 x0), (1, .int .i64 x1)].toArray).run Try.prog w = .ok (.agg #[.int .i64 x0, .int .i64 x1]) w := by kernel_rfl
theorem c64 {w0 w : World} {F : List (Nat × Obj)} (p : Port) (a : Option Addr) (c m pb : Nat) (hp : Ats w0 F pb 0 [.int .i64 p.hold, .int .i64 p.clo, .int .i64 p.chi, .slice a p.farms.length c, .map (some m)]) (ha : Sl w0 F a 6 (rows p.farms)) (hok : p.Ok) (hs : St w0 w F) :
  Con Try.prog 64 [.pointer (some ⟨pb, 0, none⟩)] w fun v w' => v = .bool (!(doC p).isEmpty) ∧ St w0 w' F := by
  refine con_of_wcM (n := 6) Try.func64 rfl rfl (Nat.le_of_ble_eq_true rfl) ?_
  refine w_seq (fun K2 hK1 => ?_)
  refine w_region ?_
  refine w_alloc (cs := [_]) want_none Try.zeroValue4 rfl hs (fun b3 w4 hs5 => ?_)
  refine w_nil ?_
  refine q_then (hK1 _ _ ?_)
  refine w_seq (fun K7 hK6 => ?_)
  refine w_seq (fun K9 hK8 => ?_)
  refine w_region ?_
  refine w_pure want_none (y_move (v := .pointer _) rfl rfl) rfl ?_
  refine w_call want_none Try.call60 rfl rfl rfl rfl (c60 _ hs5) ?_
  rintro _ w11 ⟨bq, rfl, hs12⟩
  refine w_nil ?_
  refine q_then (hK8 _ _ ?_)
  refine w_block ?_
  refine w_range ([_]) (fun i Bx => i = 0 ∧ Bx = [(b3, blk 4 [.bool false])]) (fun c Bx => c = .ret ∧ Bx = [(b3, blk 4 [.bool true])] ∧ 0 < (doC p).length) rfl rfl rfl Try.call86 (does_iter p a c m pb hp.cons ha.cons hok bq (ats_own (i := 0) (vs := [_]) rfl rfl)) hs12 (List.Perm.swap _ _ _) ⟨rfl, rfl⟩ ?_ ?_ ?_
  ·
    intro lp i hi Bx Xr Xr2 w14 hJ hs K hK13
    obtain ⟨rfl, rfl⟩ := hJ
    have hi0 : 0 < (doC p).length := by simpa using hi
    replace hs := (show St _ _ (_ :: (Xr ++ (_ :: F))) from hs)
    refine w_skip ?_
    refine q_then (hK13 _ _ (_ :: []) hs (fun w15 hs16 => ?_))
    replace hs16 := (show St _ _ (_ :: Xr2 ++ (_ :: F)) from hs16)
    refine w_block ?_
    refine w_seq (fun K18 hK17 => ?_)
    refine w_region ?_
    refine w_store (i := 0) (v := .bool _) (vs := [_]) want_none Try.sizeOf4 rfl rfl rfl rfl rfl (by simp [Value.oneCell']) hs16 rfl (Nat.le_of_ble_eq_true rfl) (fun w19 hs20 => ?_)
    refine w_nil ?_
    refine q_then (hK17 _ _ ?_)
    refine w_ret ?_
    refine q_blk_ret ?_
    refine rd_ret (_ :: []) hs20 ?_
    exact ⟨rfl, rfl, hi0⟩
  ·
    intro bd Bx w21 hJ hs
    obtain ⟨h0, rfl⟩ := hJ
    rw [List.length_map, List.length_map] at h0
    refine q_blk_normal ?_
    refine q_then (hK6 _ _ ?_)
    refine w_seq (fun K23 hK22 => ?_)
    refine w_region ?_
    refine w_store (i := 1) (v := .bool _) (vs := [_]) want_none Try.sizeOf4 rfl rfl rfl rfl rfl (by simp [Value.oneCell']) hs rfl (Nat.le_of_ble_eq_true rfl) (fun w24 hs25 => ?_)
    refine w_nil ?_
    refine q_then (hK22 _ _ ?_)
    refine w_ret ?_
    refine q_retM (i := 0) (l := [.cell 2 4]) (vs := [_]) hs25 rfl rfl (fun w26 hs27 => ⟨⟨⟨rfl, _, rfl, run_loadVar1 Try.isAgg4 hs27 (ats_own (i := 1) (vs := [_]) rfl rfl)⟩, trivial⟩, ?_⟩)
    first
      | exact ⟨congrArg Value.bool (by rw [List.length_eq_zero_iff.1 h0]; rfl), hs27.tail.tail.tail⟩
      | exact ⟨congrArg Value.bool (by cases hd : doC p with | nil => rw [hd] at h0; simp at h0 | cons _ _ => rfl), hs27.tail.tail.tail⟩
  ·
    intro bd c Bx w28 hJ hs
    obtain ⟨rfl, rfl, h0⟩ := hJ
    refine w_ret ?_
    refine q_blk_ret ?_
    refine q_then_ret ?_
    refine q_retM (i := 0) (l := [.cell 2 4]) (vs := [_]) hs rfl rfl (fun w29 hs30 => ⟨⟨⟨rfl, _, rfl, run_loadVar1 Try.isAgg4 hs30 (ats_own (i := 1) (vs := [_]) rfl rfl)⟩, trivial⟩, ?_⟩)
    first
      | exact ⟨congrArg Value.bool (by rw [List.length_eq_zero_iff.1 h0]; rfl), hs30.tail.tail.tail⟩
      | exact ⟨congrArg Value.bool (by cases hd : doC p with | nil => rw [hd] at h0; simp at h0 | cons _ _ => rfl), hs30.tail.tail.tail⟩

theorem c61 {w0 w : World} {X M F : List (Nat × Obj)} (p : Port) (a : Option Addr) (c m pb : Nat) (hp : Ats w0 F pb 0 [.int .i64 p.hold, .int .i64 p.clo, .int .i64 p.chi, .slice a p.farms.length c, .map (some m)]) (ha : Sl w0 F a 6 (rows p.farms)) (hok : p.Ok) (bf : Nat) (hbf : Ats w0 F bf 0 [.pointer (some ⟨pb, 0, none⟩)]) (l : List Int) (hlen : l.length = 3) (hl1 : ∀ x ∈ l, -1 ≤ x ∧ x ≤ 10) (hM : Memo w0 p m M) (hs : St w0 w (X ++ (M ++ F))) :
  Con Try.prog 61 [ia l, .pointer (some ⟨bf, 0, none⟩)] w fun v w' => v = .agg #[.int .i64 (vain p l), .int .i64 (cut p.farms l)] ∧ ∃ M', Memo w0 p m M' ∧ St w0 w' (X ++ (M' ++ F)) := by
  refine con_of_wc (n := 11) Try.func61 rfl rfl (Nat.le_of_ble_eq_true rfl) ?_
  refine w_seq (fun K2 hK1 => ?_)
  refine w_region ?_
  refine w_boxI (l := _) want_none rfl rfl rfl hs (fun b3 w4 hs5 => ?_)
  refine w_alloc (cs := [_, _]) want_none Try.zeroValue100 rfl hs5 (fun b6 w7 hs8 => ?_)
  refine w_nil ?_
  refine q_then (hK1 _ _ ?_)
  refine w_seq (fun K10 hK9 => ?_)
  refine w_drawC (C := fun w => ∃ M, Memo w0 p m M ∧ St w0 w ((b6, blk 100 [.int .i64 0, .int .i64 0]) :: (b3, blk 83 (iv l)) :: (X ++ (M ++ F)))) [7] [(0, 1), (1, 1), (3, 1), (4, 1), (2, 2), (5, 2), (6, 0), (7, 3)] Try_mo (by kernel_rfl) ⟨_, hM, hs8⟩ (fun _ ⟨M, h1, h2⟩ => ⟨M, h1, h2.drew⟩) (fun w11 ⟨M, hM, hs12⟩ => ?_)
  refine d_takeC rfl want_none rfl ⟨_, hM, hs12⟩ (fun _ ⟨M, hM, hq⟩ => (y_load1 Try.isAgg81 hq.tail.tail.drop.drop rfl rfl hbf)) ?_
  refine d_takeC rfl want_none rfl ⟨_, hM, hs12⟩ (fun _ ⟨M, hM, hq⟩ => (y_loadI (i := 1) Try.isAgg83 Try.sizeOf83 (by first | omega | rfl | (simp only [List.length_map, List.length_set, List.length_append, List.length_take, List.length_drop, List.length_replicate, List.length_cons, List.length_nil] <;> omega)) hq rfl rfl rfl)) ?_
  refine d_takeC rfl want_none rfl ⟨_, hM, hs12⟩ (fun _ ⟨M, hM, hq⟩ => (y_load1 Try.isAgg81 hq.tail.tail.drop.drop rfl rfl hbf)) ?_
  refine d_takeC rfl want_none rfl ⟨_, hM, hs12⟩ (fun _ ⟨M, hM, hq⟩ => (y_loadI (i := 1) Try.isAgg83 Try.sizeOf83 (by first | omega | rfl | (simp only [List.length_map, List.length_set, List.length_append, List.length_take, List.length_drop, List.length_replicate, List.length_cons, List.length_nil] <;> omega)) hq rfl rfl rfl)) ?_
  refine d_eff rfl ?_
  refine w_call want_none Try.call57 rfl rfl rfl rfl (c57 (X := _ :: _ :: X) p _ c m pb hp ha hok l hlen hl1 hM hs12) ?_
  rintro _ w14 ⟨rfl, M1, hM1, hs15⟩
  replace hs15 := (show St _ _ (_ :: _ :: X ++ (M1 ++ (F))) from hs15)
  refine w_nil ?_
  refine qn ⟨⟨_, hM1, hs15⟩, ?_⟩
  refine d_eff rfl ?_
  refine w_call want_none Try.call62 rfl rfl rfl rfl (c62 p _ c m pb hp.app.app.cons.cons ha.app.app.cons.cons hok l hlen hl1 hs15) ?_
  rintro _ w17 ⟨rfl, hs18⟩
  refine w_nil ?_
  refine qn ⟨⟨_, hM1, hs18⟩, ?_⟩
  refine d_any rfl want_none rfl (fun _ => (y_build (ps := [(0, _), (1, _)]) (pv := [(0, .int _ _), (1, .int _ _)]) rfl rfl (fun w => Try_N_fb7 _ _ w))) ?_
  refine d_late rfl ?_
  refine w_store (i := 0) (v := .agg #[.int _ _, .int _ _]) (vs := [_, _]) want_none Try.sizeOf100 rfl rfl rfl rfl rfl (by simp [Value.oneCell']) hs18 rfl (Nat.le_of_ble_eq_true rfl) (fun w19 hs20 => ?_)
  refine w_nil ?_
  refine qn ?_
  refine d_nil ?_
  refine q_then (hK9 _ _ ?_)
  refine w_ret ?_
  refine q_ret (l := [.cell 3 100]) (vs := [_]) rfl ⟨⟨rfl, _, rfl, run_loadVarN (vs := [_, _]) Try.isAgg100 Try.sizeOf100 hs20 (ats_own (i := 0) (vs := [_, _]) rfl rfl)⟩, trivial⟩ ?_
  exact ⟨rfl, M1, hM1, hs20.tail.tail⟩

theorem best_perm {x y z u : Nat × Obj} (X M F : List (Nat × Obj)) : (x :: y :: z :: u :: (X ++ (M ++ F))).Perm ((x :: y :: z :: u :: M) ++ (X ++ F)) :=
  (List.Perm.cons x (List.Perm.cons y (List.Perm.cons z (List.Perm.cons u (perm_mid X M F)))))
theorem best_eta {s t : Best} (h : s = t) : s = t := h
theorem c59 {w0 w : World} {X M F : List (Nat × Obj)} (p : Port) (a : Option Addr) (c m pb : Nat) (hp : Ats w0 F pb 0 [.int .i64 p.hold, .int .i64 p.clo, .int .i64 p.chi, .slice a p.farms.length c, .map (some m)]) (ha : Sl w0 F a 6 (rows p.farms)) (hok : p.Ok) (bq bf : Nat) (hbq : Ats w0 F bq 0 [.pointer (some ⟨pb, 0, none⟩)]) (hbf : Ats w0 F bf 0 [.pointer (some ⟨pb, 0, none⟩)]) (hM : Memo w0 p m M) (hs : St w0 w (X ++ (M ++ F))) :
  Con Try.prog 59 [.func (.func 86) #[] #[.pointer (some ⟨bq, 0, none⟩)], .func (.func 61) #[] #[.pointer (some ⟨bf, 0, none⟩)]] w fun v w' => v = .tuple #[ia (best p (doP p)).b, .bool (best p (doP p)).found] ∧ ∃ M', Memo w0 p m M' ∧ St w0 w' (X ++ (M' ++ F)) := by
  refine con_of_wcM (n := 26) Try.func59 rfl rfl (Nat.le_of_ble_eq_true rfl) ?_
  refine w_seq (fun K2 hK1 => ?_)
  refine w_region ?_
  refine w_box (v := .func _ _ _) (cs := [_]) want_none rfl rfl rfl hs (fun b3 w4 hs5 => ?_)
  refine w_alloc (cs := iv [0, 0, 0]) want_none Try.zeroValue83 rfl hs5 (fun b6 w7 hs8 => ?_)
  refine w_alloc (cs := [_]) want_none Try.zeroValue4 rfl hs8 (fun b9 w10 hs11 => ?_)
  refine w_nil ?_
  refine q_then (hK1 _ _ ?_)
  refine w_seq (fun K13 hK12 => ?_)
  refine w_region ?_
  refine w_alloc (cs := [_, _]) want_none Try.zeroValue100 rfl hs11 (fun b14 w15 hs16 => ?_)
  refine w_nil ?_
  refine q_then (hK12 _ _ ?_)
  refine w_seq (fun K18 hK17 => ?_)
  refine w_seq (fun K20 hK19 => ?_)
  refine w_region ?_
  refine w_pure want_none (y_move (v := .func _ _ _) rfl rfl) rfl ?_
  refine w_nil ?_
  refine q_then (hK19 _ _ ?_)
  refine w_block ?_
  refine w_range (_ :: _ :: _ :: _ :: M) (fun i Bx => ∃ s M', s = bestUpto p (doP p) i ∧ Bx = (b14, blk 100 [.int .i64 s.v, .int .i64 s.c]) :: (b9, blk 4 [.bool s.found]) :: (b6, blk 83 (iv s.b)) :: (b3, blk 101 [.func (.func 61) #[] #[.pointer (some ⟨bf, 0, none⟩)]]) :: M' ∧ Memo w0 p m M') (fun _ _ => False) rfl rfl rfl Try.call86 (does_iter p a c m pb (hp.app (L' := X)) (ha.app (L' := X)) hok bq (hbq.app (L' := X))) hs16 (best_perm X M F) ⟨⟨false, [0, 0, 0], 0, 0⟩, M, rfl, rfl, hM⟩ ?_ ?_ ?_
  ·
    intro lp i hi Bx Xr Xr2 w22 hJ hs K hK21
    obtain ⟨s, M1, hs0, rfl, hM1⟩ := hJ
    have hi2 : i < (doP p).length := by simpa [doP] using hi
    have hslen : s.b.length = 3 := by rw [hs0]; exact best_len doP_len i
    rw [List.getElem_map, show ((doC p).map pad)[i]'(by simpa [doP] using hi2) = (doP p)[i] from rfl]
    have hlen := doP_len _ (List.getElem_mem hi2)
    have hl1 := doP_in _ (List.getElem_mem hi2)
    obtain ⟨l, hl⟩ : ∃ l, l = (doP p)[i] := ⟨_, rfl⟩
    rw [← hl] at hlen hl1 ⊢
    replace hs := (show St _ _ (_ :: _ :: _ :: _ :: (M1 ++ (Xr ++ (X ++ F)))) from hs)
    refine w_region ?_
    refine w_alloc (cs := iv [0, 0, 0]) want_none Try.zeroValue83 rfl hs (fun b23 w24 hs25 => ?_)
    refine w_storeI (i := 0) (l := _) want_none Try.sizeOf83 (by first | omega | rfl | (simp only [hslen, List.length_map, List.length_set, List.length_append, List.length_take, List.length_drop, List.length_replicate, List.length_cons, List.length_nil] <;> omega)) rfl rfl rfl rfl rfl hs25 rfl (by first | omega | rfl | (simp only [hslen, List.length_map, List.length_set, List.length_append, List.length_take, List.length_drop, List.length_replicate, List.length_cons, List.length_nil] <;> omega)) (fun w26 hs27 => ?_)
    refine w_nil ?_
    refine q_then (hK21 _ _ (_ :: _ :: _ :: _ :: _ :: M1) hs27 (fun w28 hs29 => ?_))
    replace hs29 := (show St _ _ (_ :: _ :: _ :: _ :: _ :: M1 ++ (Xr2 ++ (X ++ (F)))) from hs29)
    refine w_block ?_
    refine w_seq (fun K31 hK30 => ?_)
    refine w_region ?_
    refine w_pure want_none (y_load1 Try.isAgg101 hs29 rfl rfl (ats_own (i := 4) (vs := [_]) rfl rfl)) rfl ?_
    refine w_pure want_none (y_loadI (i := 0) Try.isAgg83 Try.sizeOf83 (by first | omega | rfl | (simp only [hslen, List.length_map, List.length_set, List.length_append, List.length_take, List.length_drop, List.length_replicate, List.length_cons, List.length_nil] <;> omega)) hs29 rfl rfl rfl) rfl ?_
    refine w_call want_none Try.call61 rfl rfl rfl rfl ((c61 (X := _ :: _ :: _ :: _ :: _ :: []) (F := Xr2 ++ (X ++ F)) p _ c m pb (hp.app (L' := X)).app (ha.app (L' := X)).app hok bf (hbf.app (L' := X)).app l hlen hl1 hM1 hs29)) ?_
    rintro _ w33 ⟨rfl, M2, hM2, hs34⟩
    replace hs34 := (show St _ _ (_ :: _ :: _ :: _ :: _ :: M2 ++ (Xr2 ++ (X ++ (F)))) from hs34)
    refine w_alloc (cs := [_, _]) want_none Try.zeroValue100 rfl hs34 (fun b35 w36 hs37 => ?_)
    refine w_store (i := 0) (v := .agg #[.int _ _, .int _ _]) (vs := [_, _]) want_none Try.sizeOf100 rfl rfl rfl rfl rfl (by simp [Value.oneCell']) hs37 rfl (Nat.le_of_ble_eq_true rfl) (fun w38 hs39 => ?_)
    refine w_nil ?_
    refine q_then (hK30 _ _ ?_)
    refine w_seq (fun K41 hK40 => ?_)
    refine w_draw [] [(0, 1), (1, 0), (2, 0), (3, 0), (4, 0), (5, 2), (6, 0), (7, 0)] Try_mo (by kernel_rfl) hs39 (fun w42 hs43 => ?_)
    refine d_take rfl want_none rfl hs43 (fun _ hq => (y_load1 Try.isAgg4 hq rfl rfl (ats_own (i := 3) (vs := [_]) rfl rfl))) ?_
    refine d_any rfl want_none rfl (fun _ => (y_not rfl rfl)) ?_
    refine d_any rfl want_none rfl (fun _ => (y_move (v := .bool _) rfl rfl)) ?_
    refine d_split (fun h44 => ?_) (fun h44 => ?_)
    ·
      try simp only [Bool.not_eq_true', Bool.not_eq_false', decide_eq_true_eq, decide_eq_false_iff_not, Int.not_lt, Int.not_le] at h44
      refine d_skip rfl rfl rfl rfl ?_
      refine d_skip rfl rfl rfl rfl ?_
      refine d_eff rfl ?_
      refine w_skipop rfl rfl rfl ?_
      refine w_nil ?_
      refine qn ⟨hs43, ?_⟩
      refine d_skip rfl rfl rfl rfl ?_
      refine d_any rfl want_none rfl (fun _ => (y_pickT (v := _) rfl rfl rfl rfl)) ?_
      refine d_nil ?_
      refine q_then (hK40 _ _ ?_)
      refine w_condT rfl rfl ?_
      refine w_drawC (C := fun w => ∃ bc : List Int, bc.length = 3 ∧ St w0 w ((b35, blk 100 [.int .i64 (vain p l), .int .i64 (cut p.farms l)]) :: (b23, blk 83 (iv l)) :: (b14, blk 100 [.int .i64 s.v, .int .i64 s.c]) :: (b9, blk 4 [.bool s.found]) :: (b6, blk 83 (iv bc)) :: (b3, blk 101 [.func (.func 61) #[] #[.pointer (some ⟨bf, 0, none⟩)]]) :: (M2 ++ (Xr2 ++ (X ++ F))))) [3, 4] [(0, 1), (1, 1), (2, 2), (3, 3), (4, 3)] Try_mo (by kernel_rfl) ⟨_, (by first | exact hslen | exact hlen | assumption), hs43⟩ (fun _ ⟨bc, h1, h2⟩ => ⟨bc, h1, h2.drew⟩) (fun w45 ⟨bc, hbc, hs46⟩ => ?_)
      refine d_takeC rfl want_none rfl ⟨_, (by first | exact hslen | exact hlen | assumption), hs46⟩ (fun _ ⟨bc, hbc, hq⟩ => (y_loadI (i := 1) Try.isAgg83 Try.sizeOf83 (by first | omega | rfl | (simp only [hslen, List.length_map, List.length_set, List.length_append, List.length_take, List.length_drop, List.length_replicate, List.length_cons, List.length_nil] <;> omega)) hq rfl rfl rfl)) ?_
      refine d_takeC rfl want_none rfl ⟨_, (by first | exact hslen | exact hlen | assumption), hs46⟩ (fun _ ⟨bc, hbc, hq⟩ => (y_loadN (vs := [_, _]) Try.isAgg100 Try.sizeOf100 hq rfl rfl (ats_own (i := 0) (vs := [_, _]) rfl rfl))) ?_
      refine d_eff rfl ?_
      refine w_storeI (i := 4) (l := _) want_none Try.sizeOf83 (by first | omega | rfl | (simp only [hslen, List.length_map, List.length_set, List.length_append, List.length_take, List.length_drop, List.length_replicate, List.length_cons, List.length_nil] <;> omega)) rfl rfl rfl rfl rfl hs46 rfl (by first | omega | rfl | (simp only [hslen, List.length_map, List.length_set, List.length_append, List.length_take, List.length_drop, List.length_replicate, List.length_cons, List.length_nil] <;> omega)) (fun w47 hs48 => ?_)
      refine w_nil ?_
      refine qn ⟨⟨_, (by first | exact hslen | exact hlen | assumption), hs48⟩, ?_⟩
      refine d_late rfl ?_
      refine w_store (i := 2) (v := .agg #[.int _ _, .int _ _]) (vs := [_, _]) want_none Try.sizeOf100 rfl rfl rfl rfl rfl (by simp [Value.oneCell']) hs48 rfl (Nat.le_of_ble_eq_true rfl) (fun w49 hs50 => ?_)
      refine w_nil ?_
      refine qn ?_
      refine d_late rfl ?_
      refine w_store (i := 3) (v := .bool _) (vs := [_]) want_none Try.sizeOf4 rfl rfl rfl rfl rfl (by simp [Value.oneCell']) hs50 rfl (Nat.le_of_ble_eq_true rfl) (fun w51 hs52 => ?_)
      refine w_nil ?_
      refine qn ?_
      refine d_nil ?_
      refine q_blk_normal ?_
      refine rd_normal (_ :: _ :: _ :: _ :: M2) hs52.tail.tail ?_
      first
        | exact ⟨⟨true, l, vain p l, cut p.farms l⟩, M2, by rw [bestUpto_succ hi2, ← hs0, ← hl]; exact (bstep_take (.inl (by assumption))).symm, rfl, hM2⟩
        | exact ⟨⟨true, l, vain p l, cut p.farms l⟩, M2, by rw [bestUpto_succ hi2, ← hs0, ← hl]; exact (bstep_take (.inr (by rw [← hz]; exact decide_eq_true (by assumption)))).symm, rfl, hM2⟩
        | exact ⟨s, M2, by rw [bestUpto_succ hi2, ← hs0, ← hl]; exact (bstep_keep (by assumption) (by rw [← hz]; exact decide_eq_false (by omega))).symm, rfl, hM2⟩
    ·
      try simp only [Bool.not_eq_true', Bool.not_eq_false', decide_eq_true_eq, decide_eq_false_iff_not, Int.not_lt, Int.not_le] at h44
      refine d_any rfl (want_yes rfl rfl rfl) rfl (fun _ => (y_sliceA Try.underlying100 Try.sizeOf3 rfl rfl)) ?_
      refine d_any rfl (want_yes rfl rfl rfl) rfl (fun _ => (y_sliceA Try.underlying100 Try.sizeOf3 rfl rfl)) ?_
      refine d_eff rfl ?_
      refine w_call (want_yes rfl rfl rfl) Try.call85 rfl rfl rfl rfl (c85 _ _ [_, _] [_, _] _ _ (by simp) (by simp) (sl_own (i := 0) (rows := [[_], [_]]) rfl (by simp) rfl) (sl_own (i := 2) (rows := [[_], [_]]) rfl (by simp) rfl) hs43) ?_
      rintro _ w54 ⟨⟨z, rfl, hz⟩, hs55⟩
      refine w_nil ?_
      refine qn ⟨hs55, ?_⟩
      refine d_any rfl (want_yes rfl rfl rfl) rfl (fun _ => (y_lss rfl rfl rfl rfl)) ?_
      refine d_any rfl want_none rfl (fun _ => (y_pickF (v := .bool _) rfl rfl rfl rfl)) ?_
      refine d_nil ?_
      refine q_then (hK40 _ _ ?_)
      refine w_cond rfl rfl (fun h56 => ?_) (fun h56 => ?_)
      ·
        try simp only [Bool.not_eq_true', Bool.not_eq_false', decide_eq_true_eq, decide_eq_false_iff_not, Int.not_lt, Int.not_le] at h56
        refine w_drawC (C := fun w => ∃ bc : List Int, bc.length = 3 ∧ St w0 w ((b35, blk 100 [.int .i64 (vain p l), .int .i64 (cut p.farms l)]) :: (b23, blk 83 (iv l)) :: (b14, blk 100 [.int .i64 s.v, .int .i64 s.c]) :: (b9, blk 4 [.bool s.found]) :: (b6, blk 83 (iv bc)) :: (b3, blk 101 [.func (.func 61) #[] #[.pointer (some ⟨bf, 0, none⟩)]]) :: (M2 ++ (Xr2 ++ (X ++ F))))) [3, 4] [(0, 1), (1, 1), (2, 2), (3, 3), (4, 3)] Try_mo (by kernel_rfl) ⟨_, (by first | exact hslen | exact hlen | assumption), hs55⟩ (fun _ ⟨bc, h1, h2⟩ => ⟨bc, h1, h2.drew⟩) (fun w57 ⟨bc, hbc, hs58⟩ => ?_)
        refine d_takeC rfl want_none rfl ⟨_, (by first | exact hslen | exact hlen | assumption), hs58⟩ (fun _ ⟨bc, hbc, hq⟩ => (y_loadI (i := 1) Try.isAgg83 Try.sizeOf83 (by first | omega | rfl | (simp only [hslen, List.length_map, List.length_set, List.length_append, List.length_take, List.length_drop, List.length_replicate, List.length_cons, List.length_nil] <;> omega)) hq rfl rfl rfl)) ?_
        refine d_takeC rfl want_none rfl ⟨_, (by first | exact hslen | exact hlen | assumption), hs58⟩ (fun _ ⟨bc, hbc, hq⟩ => (y_loadN (vs := [_, _]) Try.isAgg100 Try.sizeOf100 hq rfl rfl (ats_own (i := 0) (vs := [_, _]) rfl rfl))) ?_
        refine d_eff rfl ?_
        refine w_storeI (i := 4) (l := _) want_none Try.sizeOf83 (by first | omega | rfl | (simp only [hslen, List.length_map, List.length_set, List.length_append, List.length_take, List.length_drop, List.length_replicate, List.length_cons, List.length_nil] <;> omega)) rfl rfl rfl rfl rfl hs58 rfl (by first | omega | rfl | (simp only [hslen, List.length_map, List.length_set, List.length_append, List.length_take, List.length_drop, List.length_replicate, List.length_cons, List.length_nil] <;> omega)) (fun w59 hs60 => ?_)
        refine w_nil ?_
        refine qn ⟨⟨_, (by first | exact hslen | exact hlen | assumption), hs60⟩, ?_⟩
        refine d_late rfl ?_
        refine w_store (i := 2) (v := .agg #[.int _ _, .int _ _]) (vs := [_, _]) want_none Try.sizeOf100 rfl rfl rfl rfl rfl (by simp [Value.oneCell']) hs60 rfl (Nat.le_of_ble_eq_true rfl) (fun w61 hs62 => ?_)
        refine w_nil ?_
        refine qn ?_
        refine d_late rfl ?_
        refine w_store (i := 3) (v := .bool _) (vs := [_]) want_none Try.sizeOf4 rfl rfl rfl rfl rfl (by simp [Value.oneCell']) hs62 rfl (Nat.le_of_ble_eq_true rfl) (fun w63 hs64 => ?_)
        refine w_nil ?_
        refine qn ?_
        refine d_nil ?_
        refine q_blk_normal ?_
        refine rd_normal (_ :: _ :: _ :: _ :: M2) hs64.tail.tail ?_
        first
          | exact ⟨⟨true, l, vain p l, cut p.farms l⟩, M2, by rw [bestUpto_succ hi2, ← hs0, ← hl]; exact (bstep_take (.inl (by assumption))).symm, rfl, hM2⟩
          | exact ⟨⟨true, l, vain p l, cut p.farms l⟩, M2, by rw [bestUpto_succ hi2, ← hs0, ← hl]; exact (bstep_take (.inr (by rw [← hz]; exact decide_eq_true (by assumption)))).symm, rfl, hM2⟩
          | exact ⟨s, M2, by rw [bestUpto_succ hi2, ← hs0, ← hl]; exact (bstep_keep (by assumption) (by rw [← hz]; exact decide_eq_false (by omega))).symm, rfl, hM2⟩
      ·
        try simp only [Bool.not_eq_true', Bool.not_eq_false', decide_eq_true_eq, decide_eq_false_iff_not, Int.not_lt, Int.not_le] at h56
        refine w_skip ?_
        refine q_blk_normal ?_
        refine rd_normal (_ :: _ :: _ :: _ :: M2) hs55.tail.tail ?_
        first
          | exact ⟨⟨true, l, vain p l, cut p.farms l⟩, M2, by rw [bestUpto_succ hi2, ← hs0, ← hl]; exact (bstep_take (.inl (by assumption))).symm, rfl, hM2⟩
          | exact ⟨⟨true, l, vain p l, cut p.farms l⟩, M2, by rw [bestUpto_succ hi2, ← hs0, ← hl]; exact (bstep_take (.inr (by rw [← hz]; exact decide_eq_true (by assumption)))).symm, rfl, hM2⟩
          | exact ⟨s, M2, by rw [bestUpto_succ hi2, ← hs0, ← hl]; exact (bstep_keep (by assumption) (by rw [← hz]; exact decide_eq_false (by omega))).symm, rfl, hM2⟩
  ·
    intro bd Bx w65 hJ hs
    obtain ⟨s, M1, hs0, rfl, hM1⟩ := hJ
    have hslen : s.b.length = 3 := by rw [hs0]; exact best_len doP_len _
    replace hs := (show St _ _ (_ :: _ :: _ :: _ :: _ :: (M1 ++ (X ++ F))) from hs)
    refine q_blk_normal ?_
    refine q_then (hK17 _ _ ?_)
    refine w_seq (fun K67 hK66 => ?_)
    refine w_draw [3] [(0, 1), (1, 1), (2, 2), (3, 3)] Try_mo (by kernel_rfl) hs (fun w68 hs69 => ?_)
    refine d_take rfl want_none rfl hs69 (fun _ hq => (y_loadI (i := 3) Try.isAgg83 Try.sizeOf83 (by first | omega | rfl | (simp only [hslen, List.length_map, List.length_set, List.length_append, List.length_take, List.length_drop, List.length_replicate, List.length_cons, List.length_nil] <;> omega)) hq rfl rfl rfl)) ?_
    refine d_take rfl want_none rfl hs69 (fun _ hq => (y_load1 Try.isAgg4 hq rfl rfl (ats_own (i := 2) (vs := [_]) rfl rfl))) ?_
    refine d_eff rfl ?_
    refine w_storeI (i := 3) (l := _) want_none Try.sizeOf83 (by first | omega | rfl | (simp only [hslen, List.length_map, List.length_set, List.length_append, List.length_take, List.length_drop, List.length_replicate, List.length_cons, List.length_nil] <;> omega)) rfl rfl rfl rfl rfl hs69 rfl (by first | omega | rfl | (simp only [hslen, List.length_map, List.length_set, List.length_append, List.length_take, List.length_drop, List.length_replicate, List.length_cons, List.length_nil] <;> omega)) (fun w70 hs71 => ?_)
    refine w_nil ?_
    refine qn ⟨hs71, ?_⟩
    refine d_late rfl ?_
    refine w_store (i := 2) (v := .bool _) (vs := [_]) want_none Try.sizeOf4 rfl rfl rfl rfl rfl (by simp [Value.oneCell']) hs71 rfl (Nat.le_of_ble_eq_true rfl) (fun w72 hs73 => ?_)
    refine w_nil ?_
    refine qn ?_
    refine d_nil ?_
    refine q_then (hK66 _ _ ?_)
    refine w_ret ?_
    refine q_retM (i := 0) (l := [.cell 4 83, .cell 5 4]) (vs := [_, _]) hs73 rfl rfl (fun w74 hs75 => ⟨⟨⟨rfl, _, rfl, run_loadI (i := 3) Try.isAgg83 Try.sizeOf83 (by first | omega | rfl | (simp only [hslen, List.length_map, List.length_set, List.length_append, List.length_take, List.length_drop, List.length_replicate, List.length_cons, List.length_nil] <;> omega)) hs75 rfl⟩, ⟨rfl, _, rfl, run_loadVar1 Try.isAgg4 hs75 (ats_own (i := 2) (vs := [_]) rfl rfl)⟩, trivial⟩, ?_⟩)
    rw [List.length_map, List.length_map] at *
    have hbe : s = best p (doP p) := hs0.trans (bestUpto_all (by simp [doP]))
    rw [← hbe]
    exact ⟨rfl, M1, hM1, St.perm (L := M1 ++ (X ++ F)) hs75.tail.tail.tail.tail.tail (perm_mid M1 X F)⟩
  ·
    intro _ _ _ _ hJ
    exact hJ.elim

end Go.Proofs
