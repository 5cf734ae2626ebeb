/- Walks of this seat, printed by gen.py over the engine: what each function returns, in whatever world. No conditions but those of each contract. -/
import Derived.Test.YtofoabifbkhkfaaO
set_option linter.unusedVariables false
set_option linter.unusedSimpArgs false
set_option maxRecDepth 20000
namespace Go.Proofs
open Go.Rt
attribute [local irreducible] WL WC Con Yd At Ats Sl Agree DW
theorem Try_P_fb8 (x0 : Int) (w : World) : (Instr.buildSlice 27 1 [(0, .int .i64 x0)].toArray).run Try.prog w = .ok (.slice (some ⟨w.heap.size, 0, none⟩) 1 1) (w.alloc (Go.Rt.blk 3 [.int .i64 x0])) := by kernel_rfl
theorem held_e1 {p : Port} {z : Int} (h : ¬ (check p).2.2 = 0) : heldD p z = 0 ∧ heldE p z = (check p).2.2 := by
  unfold heldD heldE
  rw [if_neg (fun hh => h hh.1), if_neg h]; exact ⟨rfl, rfl⟩
theorem held_e2 {p : Port} {z : Int} (h : (check p).2.2 = 0) (h2 : [z].any (out 0 (p.farms.length - 1)) = true) : heldD p z = 0 ∧ heldE p z = 4 := by
  simp only [List.any_cons, List.any_nil, Bool.or_false] at h2
  unfold heldD heldE
  rw [h2]; simp [h]
theorem held_fi {p : Port} {z : Int} (h2 : [z].any (out 0 (p.farms.length - 1)) = false) : ∃ f : Nat, z = f ∧ f < p.farms.length ∧ out 0 (p.farms.length - 1) z = false := by
  simp only [List.any_cons, List.any_nil, Bool.or_false] at h2
  have := (out_iff _ _ _).1 h2
  exact ⟨z.toNat, by omega, by omega, h2⟩
theorem held_never {p : Port} {f : Nat} (h : (check p).2.2 = 0) (h2 : out 0 (p.farms.length - 1) (f : Int) = false) (h3 : ((doP p).any fun l => decide (l.getD f 0 = -1)) = true) (hne : 0 < (doC p).length) : heldD p f = -1 ∧ heldE p f = 0 := by
  unfold heldD heldE
  rw [h2, Int.toNat_natCast, h3]
  have : doC p ≠ [] := fun e => by rw [e] at hne; simp at hne
  simp [h, this]
theorem held_some {p : Port} {f : Nat} (h : (check p).2.2 = 0) (h2 : out 0 (p.farms.length - 1) (f : Int) = false) (h3 : ((doP p).any fun l => decide (l.getD f 0 = -1)) = false) (hne : 0 < (doC p).length) : heldD p f = held p f ∧ heldE p f = 0 := by
  unfold heldD heldE
  rw [h2, Int.toNat_natCast, h3]
  have : doC p ≠ [] := fun e => by rw [e] at hne; simp at hne
  simp [h, this]
theorem held_down {p : Port} {f : Nat} (h : (check p).2.2 = 0) (h2 : out 0 (p.farms.length - 1) (f : Int) = false) (h3 : (doC p).length = 0) : heldD p f = 0 ∧ heldE p f = 9 := by
  have h4 : doC p = [] := List.length_eq_zero_iff.1 h3
  unfold heldD heldE held doP
  rw [h2, h4]; simp [h]
theorem c29 {w0 w : World} {F : List (Nat × Obj)} (p : Port) (a : Option Addr) (c : Nat) (hl3 : p.farms.length ≤ 9223372036854775807) (hc : p.farms.length ≤ c) (ha : Sl w0 F a 6 (rows p.farms)) (hnm : ∀ f ∈ p.farms, f.name.size ≤ 9223372036854775807) (z : Int) (hs : St w0 w F) :
  Con Try.prog 29 [.agg (p.cells a c).toArray, .int .i64 z] w fun v w' => v = .tuple #[.int .i64 (heldD p z), .int .i64 (heldE p z)] ∧ St w0 w' F := by
  refine con_of_wcM (n := 46) Try.func29 rfl rfl (Nat.le_of_ble_eq_true rfl) ?_
  refine w_seq (fun K2 hK1 => ?_)
  refine w_region ?_
  refine w_box (v := .agg #[.int _ _, .int _ _, .int _ _, .slice _ _ _]) (cs := [_, _, _, _]) want_none rfl rfl rfl hs (fun b3 w4 hs5 => ?_)
  refine w_box (v := .int _ _) (cs := [_]) want_none rfl rfl rfl hs5 (fun b6 w7 hs8 => ?_)
  refine w_alloc (cs := [_]) want_none Try.zeroValue3 rfl hs8 (fun b9 w10 hs11 => ?_)
  refine w_alloc (cs := [_]) want_none Try.zeroValue28 rfl hs11 (fun b12 w13 hs14 => ?_)
  refine w_nil ?_
  refine q_then (hK1 _ _ ?_)
  refine w_seq (fun K16 hK15 => ?_)
  refine w_region ?_
  refine w_pure want_none (y_loadN (vs := [_, _, _, _]) Try.isAgg26 Try.sizeOf26 hs14 rfl rfl (ats_own (i := 3) (vs := [_, _, _, _]) rfl rfl)) rfl ?_
  refine w_call want_none Try.call16 rfl rfl rfl rfl (c16 p _ _ (by omega) (by omega) ha.cons.cons.cons.cons hnm hs14) ?_
  rintro _ w18 ⟨rfl, hs19⟩
  refine w_pure want_none (y_move (v := .tuple _) rfl rfl) rfl ?_
  refine w_pure want_none (y_extract (v := .int _ _) rfl rfl rfl) rfl ?_
  refine w_pure want_none (y_extract (v := .int _ _) rfl rfl rfl) rfl ?_
  refine w_pure want_none (y_extract (v := .int _ _) rfl rfl rfl) rfl ?_
  refine w_pure want_none (y_assign (v := .int _ _) rfl rfl) rfl ?_
  refine w_pure want_none (y_assign (v := .int _ _) rfl rfl) rfl ?_
  refine w_pure want_none (y_assign (v := .int _ _) rfl rfl) rfl ?_
  refine w_nil ?_
  refine q_then (hK15 _ _ ?_)
  refine w_seq (fun K21 hK20 => ?_)
  refine w_block ?_
  refine w_seq (fun K23 hK22 => ?_)
  refine w_region ?_
  refine w_pure want_none (y_move (v := .int _ _) rfl rfl) rfl ?_
  refine w_pure want_none (y_neq rfl rfl rfl rfl) rfl ?_
  refine w_pure want_none (y_assign (v := .bool _) rfl rfl) rfl ?_
  refine w_nil ?_
  refine q_then (hK22 _ _ ?_)
  refine w_cond rfl rfl (fun h24 => ?_) (fun h24 => ?_)
  ·
    try simp only [Bool.not_eq_true', Bool.not_eq_false', decide_eq_true_eq, decide_eq_false_iff_not, Int.not_lt, Int.not_le] at h24
    refine w_seq (fun K26 hK25 => ?_)
    refine w_region ?_
    refine w_pure want_none (y_move (v := .int _ _) rfl rfl) rfl ?_
    refine w_store (i := 1) (v := .int _ _) (vs := [_]) want_none Try.sizeOf3 rfl rfl rfl rfl rfl (by simp [Value.oneCell']) hs19 rfl (Nat.le_of_ble_eq_true rfl) (fun w27 hs28 => ?_)
    refine w_store (i := 0) (v := .int _ _) (vs := [_]) want_none Try.sizeOf28 rfl rfl rfl rfl rfl (by simp [Value.oneCell']) hs28 rfl (Nat.le_of_ble_eq_true rfl) (fun w29 hs30 => ?_)
    refine w_nil ?_
    refine q_then (hK25 _ _ ?_)
    refine w_ret ?_
    refine q_blk_ret ?_
    refine q_then_ret ?_
    refine q_retM0 (l := [.cell 4 3, .cell 5 28]) (vs := [_, _]) rfl ⟨⟨rfl, _, rfl, run_loadVar1 Try.isAgg3 hs30 (ats_own (i := 1) (vs := [_]) rfl rfl)⟩, ⟨rfl, _, rfl, run_loadVar1 Try.isAgg28 hs30 (ats_own (i := 0) (vs := [_]) rfl rfl)⟩, trivial⟩ ?_
    first
      | (obtain ⟨e1, e2⟩ := held_e1 (p := p) (z := z) (by assumption); rw [e1, e2]; exact ⟨rfl, hs30.tail.tail.tail.tail⟩)
      | (obtain ⟨e1, e2⟩ := held_e2 (p := p) (z := z) (by assumption) (by assumption); rw [e1, e2]; exact ⟨rfl, hs30.tail.tail.tail.tail⟩)
      | (obtain ⟨e1, e2⟩ := held_never (p := p) (f := f) (by assumption) hfo hnv hdc; rw [e1, e2]; exact ⟨rfl, hs30.tail.tail.tail.tail⟩)
      | (obtain ⟨e1, e2⟩ := held_down (p := p) (f := f) (by assumption) hfo (by omega); rw [e1, e2]; exact ⟨rfl, hs30.tail.tail.tail.tail⟩)
      | (rw [anyNever_all (by simp [doP])] at hnv; obtain ⟨e1, e2⟩ := held_some (p := p) (f := f) (by assumption) hfo hnv (by omega); rw [e1, e2, ← heldUpto_all (i := (doC p).length) (by simp [doP])]; exact ⟨rfl, hs30.tail.tail.tail.tail⟩)
  ·
    try simp only [Bool.not_eq_true', Bool.not_eq_false', decide_eq_true_eq, decide_eq_false_iff_not, Int.not_lt, Int.not_le] at h24
    refine w_seq (fun K32 hK31 => ?_)
    have hok := check_ok (by assumption)
    have hlen3 := hok.len
    refine w_region ?_
    refine w_pure want_none (y_fieldAddr (o := 3) (i := 2) Try.underlying26 rfl Try.sizeOf24 rfl rfl rfl) rfl ?_
    refine w_pure want_none (y_load1 Try.isAgg24 hs19 rfl rfl (ats_own (i := 3) (vs := [_]) rfl rfl)) rfl ?_
    refine w_pure want_none (y_lenS Try.underlying24 rfl rfl) rfl ?_
    refine w_pure want_none (y_sub rfl rfl rfl rfl (by omega) (by omega)) rfl ?_
    refine w_pure want_none (y_load1 Try.isAgg3 hs19 rfl rfl (ats_own (i := 2) (vs := [_]) rfl rfl)) rfl ?_
    refine w_bslice (ps := [(0, _)]) (pv := [(0, .int _ _)]) (cs := [_]) want_none rfl rfl (fun w => Try_P_fb8 _ w) hs19 (fun b33 w34 hs35 => ?_)
    refine w_call want_none Try.call48 rfl rfl rfl rfl (c48 _ _ _ [_] _ (by simp) (sl_own (i := 0) (rows := [[_]]) rfl (by simp) rfl) hs35) ?_
    rintro _ w37 ⟨rfl, hs38⟩
    refine w_pure want_none (y_assign (v := .bool _) rfl rfl) rfl ?_
    refine w_nil ?_
    refine q_then (hK31 _ _ ?_)
    refine w_cond rfl rfl (fun h39 => ?_) (fun h39 => ?_)
    ·
      try simp only [Bool.not_eq_true', Bool.not_eq_false', decide_eq_true_eq, decide_eq_false_iff_not, Int.not_lt, Int.not_le] at h39
      refine w_seq (fun K41 hK40 => ?_)
      refine w_region ?_
      refine w_store (i := 2) (v := .int _ _) (vs := [_]) want_none Try.sizeOf3 rfl rfl rfl rfl rfl (by simp [Value.oneCell']) hs38 rfl (Nat.le_of_ble_eq_true rfl) (fun w42 hs43 => ?_)
      refine w_store (i := 1) (v := .int _ _) (vs := [_]) want_none Try.sizeOf28 rfl rfl rfl rfl rfl (by simp [Value.oneCell']) hs43 rfl (Nat.le_of_ble_eq_true rfl) (fun w44 hs45 => ?_)
      refine w_nil ?_
      refine q_then (hK40 _ _ ?_)
      refine w_ret ?_
      refine q_blk_ret ?_
      refine q_then_ret ?_
      refine q_retM0 (l := [.cell 4 3, .cell 5 28]) (vs := [_, _]) rfl ⟨⟨rfl, _, rfl, run_loadVar1 Try.isAgg3 hs45 (ats_own (i := 2) (vs := [_]) rfl rfl)⟩, ⟨rfl, _, rfl, run_loadVar1 Try.isAgg28 hs45 (ats_own (i := 1) (vs := [_]) rfl rfl)⟩, trivial⟩ ?_
      first
        | (obtain ⟨e1, e2⟩ := held_e1 (p := p) (z := z) (by assumption); rw [e1, e2]; exact ⟨rfl, hs45.tail.tail.tail.tail.tail⟩)
        | (obtain ⟨e1, e2⟩ := held_e2 (p := p) (z := z) (by assumption) (by assumption); rw [e1, e2]; exact ⟨rfl, hs45.tail.tail.tail.tail.tail⟩)
        | (obtain ⟨e1, e2⟩ := held_never (p := p) (f := f) (by assumption) hfo hnv hdc; rw [e1, e2]; exact ⟨rfl, hs45.tail.tail.tail.tail.tail⟩)
        | (obtain ⟨e1, e2⟩ := held_down (p := p) (f := f) (by assumption) hfo (by omega); rw [e1, e2]; exact ⟨rfl, hs45.tail.tail.tail.tail.tail⟩)
        | (rw [anyNever_all (by simp [doP])] at hnv; obtain ⟨e1, e2⟩ := held_some (p := p) (f := f) (by assumption) hfo hnv (by omega); rw [e1, e2, ← heldUpto_all (i := (doC p).length) (by simp [doP])]; exact ⟨rfl, hs45.tail.tail.tail.tail.tail⟩)
    ·
      try simp only [Bool.not_eq_true', Bool.not_eq_false', decide_eq_true_eq, decide_eq_false_iff_not, Int.not_lt, Int.not_le] at h39
      refine w_skip ?_
      refine q_blk_normal ?_
      refine q_then (hK20 _ _ ?_)
      refine w_seq (fun K47 hK46 => ?_)
      have hs48 := hs38.tail
      obtain ⟨f, rfl, hfl, hfo⟩ := held_fi (p := p) (by assumption)
      refine w_region ?_
      refine w_alloc (cs := [_]) want_none Try.zeroValue3 rfl hs48 (fun b49 w50 hs51 => ?_)
      refine w_alloc (cs := [_]) want_none Try.zeroValue4 rfl hs51 (fun b52 w53 hs54 => ?_)
      refine w_store (i := 1) (v := .int _ _) (vs := [_]) want_none Try.sizeOf3 rfl rfl rfl rfl rfl (by simp [Value.oneCell']) hs54 rfl (Nat.le_of_ble_eq_true rfl) (fun w55 hs56 => ?_)
      refine w_store (i := 0) (v := .bool _) (vs := [_]) want_none Try.sizeOf4 rfl rfl rfl rfl rfl (by simp [Value.oneCell']) hs56 rfl (Nat.le_of_ble_eq_true rfl) (fun w57 hs58 => ?_)
      refine w_nil ?_
      refine q_then (hK46 _ _ ?_)
      refine w_seq (fun K60 hK59 => ?_)
      refine w_seq (fun K62 hK61 => ?_)
      refine w_region ?_
      refine w_pure want_none (y_loadN (vs := [_, _, _, _]) Try.isAgg26 Try.sizeOf26 hs58 rfl rfl (ats_own (i := 5) (vs := [_, _, _, _]) rfl rfl)) rfl ?_
      refine w_call want_none Try.call58 rfl rfl rfl rfl (c58 p _ _ hs58) ?_
      rintro _ w64 ⟨m, pb, rfl, hs65⟩
      refine w_call want_none Try.call60 rfl rfl rfl rfl (c60 _ hs65) ?_
      rintro _ w67 ⟨bq, rfl, hs68⟩
      refine w_nil ?_
      refine q_then (hK61 _ _ ?_)
      refine w_block ?_
      refine w_range ([_, _, _, _]) (fun i Bx => Bx = [(b52, blk 4 [.bool (decide (0 < i))]), (b49, blk 3 [.int .i64 (heldUpto p f i)]), (b12, blk 28 [.int .i64 0]), (b9, blk 3 [.int .i64 0])] ∧ anyNever p f i = false) (fun cd Bx => cd = .ret ∧ (∃ x y, Bx = [(b52, blk 4 [.bool x]), (b49, blk 3 [.int .i64 y]), (b12, blk 28 [.int .i64 0]), (b9, blk 3 [.int .i64 (-1)])]) ∧ ((doP p).any fun l => decide (l.getD f 0 = -1)) = true ∧ 0 < (doC p).length) rfl rfl rfl Try.call86 (does_iter (F := ((bq, blk 81 [.pointer (some ⟨pb, 0, none⟩)]) :: (m, .map #[] 0) :: (pb, blk 119 [.int .i64 p.hold, .int .i64 p.clo, .int .i64 p.chi, .slice a p.farms.length c, .map (some m)]) :: (b6, blk 3 [.int .i64 (f : Int)]) :: (b3, blk 26 (p.cells a c)) :: F)) p a c m pb (ats_own (i := 2) (vs := [_, _, _, _, _]) rfl rfl) ha.cons.cons.cons.cons.cons hok bq (ats_own (i := 0) (vs := [_]) rfl rfl)) hs68 (perm_mid [_, _, _] [_, _, _, _] _) ⟨rfl, rfl⟩ ?_ ?_ ?_
      ·
        intro lp i hi Bx Xr Xr2 w70 hJ hs K hK69
        obtain ⟨rfl, hnv⟩ := hJ
        have hi2 : i < (doP p).length := by simpa [doP] using hi
        have hi3 : i < (doC p).length := by simpa using hi
        rw [List.getElem_map, show ((doC p).map pad)[i]'(by simpa [doP] using hi2) = (doP p)[i] from rfl]
        have hlen := doP_len _ (List.getElem_mem hi2)
        have hl1 := doP_in _ (List.getElem_mem hi2)
        obtain ⟨l, hl⟩ : ∃ l, l = (doP p)[i] := ⟨_, rfl⟩
        rw [← hl] at hlen hl1 ⊢
        replace hs := (show St _ _ (_ :: _ :: _ :: _ :: (Xr ++ (_ :: _ :: _ :: _ :: _ :: F))) from hs)
        have hb3 : Ats w0 ((bq, blk 81 [.pointer (some ⟨pb, 0, none⟩)]) :: (m, .map #[] 0) :: (pb, blk 119 [.int .i64 p.hold, .int .i64 p.clo, .int .i64 p.chi, .slice a p.farms.length c, .map (some m)]) :: (b6, blk 3 [.int .i64 (f : Int)]) :: (b3, blk 26 (p.cells a c)) :: F) b6 0 [.int .i64 (f : Int)] := ats_own (i := 3) (vs := [_]) rfl rfl
        refine w_region ?_
        refine w_alloc (cs := iv [0, 0, 0]) want_none Try.zeroValue83 rfl hs (fun b71 w72 hs73 => ?_)
        refine w_storeI (i := 0) (l := _) want_none Try.sizeOf83 (by first | omega | rfl | (simp only [List.length_map, List.length_set, List.length_append, List.length_take, List.length_drop, List.length_replicate, List.length_cons, List.length_nil] <;> omega)) rfl rfl rfl rfl rfl hs73 rfl (by first | omega | rfl | (simp only [List.length_map, List.length_set, List.length_append, List.length_take, List.length_drop, List.length_replicate, List.length_cons, List.length_nil] <;> omega)) (fun w74 hs75 => ?_)
        refine w_nil ?_
        refine q_then (hK69 _ _ (_ :: _ :: _ :: _ :: _ :: []) hs75 (fun w76 hs77 => ?_))
        replace hs77 := (show St _ _ (_ :: _ :: _ :: _ :: _ :: Xr2 ++ (_ :: _ :: _ :: _ :: _ :: F)) from hs77)
        refine w_block ?_
        refine w_seq (fun K79 hK78 => ?_)
        refine w_seq (fun K81 hK80 => ?_)
        refine w_region ?_
        refine w_store (i := 1) (v := .bool _) (vs := [_]) want_none Try.sizeOf4 rfl rfl rfl rfl rfl (by simp [Value.oneCell']) hs77 rfl (Nat.le_of_ble_eq_true rfl) (fun w82 hs83 => ?_)
        refine w_nil ?_
        refine q_then (hK80 _ _ ?_)
        refine w_seq (fun K85 hK84 => ?_)
        refine w_region ?_
        refine w_pure want_none (y_load1 Try.isAgg3 hs83.tail.tail.tail.tail.tail.drop rfl rfl hb3) rfl ?_
        refine w_pure want_none (y_indexA Try.underlying83 Try.sizeOf3 rfl rfl rfl rfl (i := f) rfl (by omega)) rfl ?_
        refine w_pure want_none (y_load1 Try.isAgg3 hs83 rfl rfl (ats_ints (i := 0) (j := f) rfl (by first | omega | rfl | (simp only [List.length_map, List.length_set, List.length_append, List.length_take, List.length_drop, List.length_replicate, List.length_cons, List.length_nil] <;> omega)))) rfl ?_
        refine w_pure want_none (y_eql rfl rfl rfl rfl) rfl ?_
        refine w_nil ?_
        refine q_then (hK84 _ _ ?_)
        refine w_cond rfl rfl (fun h86 => ?_) (fun h86 => ?_)
        ·
          try simp only [Bool.not_eq_true', Bool.not_eq_false', decide_eq_true_eq, decide_eq_false_iff_not, Int.not_lt, Int.not_le] at h86
          refine w_seq (fun K88 hK87 => ?_)
          refine w_region ?_
          refine w_store (i := 4) (v := .int _ _) (vs := [_]) want_none Try.sizeOf3 rfl rfl rfl rfl rfl (by simp [Value.oneCell']) hs83 rfl (Nat.le_of_ble_eq_true rfl) (fun w89 hs90 => ?_)
          refine w_store (i := 3) (v := .int _ _) (vs := [_]) want_none Try.sizeOf28 rfl rfl rfl rfl rfl (by simp [Value.oneCell']) hs90 rfl (Nat.le_of_ble_eq_true rfl) (fun w91 hs92 => ?_)
          refine w_nil ?_
          refine q_then (hK87 _ _ ?_)
          refine w_ret ?_
          refine q_then_ret ?_
          refine q_blk_ret ?_
          refine rd_ret (_ :: _ :: _ :: _ :: []) hs92.tail ?_
          exact ⟨rfl, ⟨_, _, rfl⟩, anyNever_true (i := i + 1) (by rw [anyNever_succ hi2, hnv, ← hl, Bool.false_or]; exact decide_eq_true (by assumption)), by omega⟩
        ·
          try simp only [Bool.not_eq_true', Bool.not_eq_false', decide_eq_true_eq, decide_eq_false_iff_not, Int.not_lt, Int.not_le] at h86
          refine w_skip ?_
          refine q_then (hK78 _ _ ?_)
          refine w_draw [5] [(0, 1), (1, 1), (2, 0), (3, 1), (4, 0), (5, 3)] Try_mo (by kernel_rfl) hs83 (fun w93 hs94 => ?_)
          refine d_take rfl want_none rfl hs94 (fun _ hq => (y_load1 Try.isAgg3 hq rfl rfl (ats_own (i := 2) (vs := [_]) rfl rfl))) ?_
          refine d_take rfl want_none rfl hs94 (fun _ hq => (y_load1 Try.isAgg3 hq.tail.tail.tail.tail.tail.drop rfl rfl hb3)) ?_
          refine d_any rfl want_none rfl (fun _ => (y_indexA Try.underlying83 Try.sizeOf3 rfl rfl rfl rfl (i := f) rfl (by omega))) ?_
          refine d_take rfl want_none rfl hs94 (fun _ hq => (y_load1 Try.isAgg3 hq rfl rfl (ats_ints (i := 0) (j := f) rfl (by first | omega | rfl | (simp only [List.length_map, List.length_set, List.length_append, List.length_take, List.length_drop, List.length_replicate, List.length_cons, List.length_nil] <;> omega))))) ?_
          refine d_any rfl want_none rfl (fun _ => (y_max2 rfl rfl rfl rfl)) ?_
          refine d_late rfl ?_
          refine w_store (i := 2) (v := .int _ _) (vs := [_]) want_none Try.sizeOf3 rfl rfl rfl rfl rfl (by simp [Value.oneCell']) hs94 rfl (Nat.le_of_ble_eq_true rfl) (fun w95 hs96 => ?_)
          refine w_nil ?_
          refine qn ?_
          refine d_nil ?_
          refine q_blk_normal ?_
          refine rd_normal (_ :: _ :: _ :: _ :: []) hs96.tail ?_
          exact ⟨by rw [heldUpto_succ hi2, ← hl]; rfl, by rw [anyNever_succ hi2, hnv, ← hl, Bool.false_or]; exact decide_eq_false (by assumption)⟩
      ·
        intro bd Bx w97 hJ hs
        obtain ⟨rfl, hnv⟩ := hJ
        rw [List.length_map, List.length_map] at *
        replace hs := (show St _ _ (_ :: _ :: _ :: _ :: _ :: _ :: _ :: _ :: _ :: _ :: F) from hs)
        refine q_blk_normal ?_
        refine q_then (hK59 _ _ ?_)
        refine w_seq (fun K99 hK98 => ?_)
        refine w_seq (fun K101 hK100 => ?_)
        refine w_region ?_
        refine w_pure want_none (y_load1 Try.isAgg4 hs rfl rfl (ats_own (i := 1) (vs := [_]) rfl rfl)) rfl ?_
        refine w_pure want_none (y_not rfl rfl) rfl ?_
        refine w_nil ?_
        refine q_then (hK100 _ _ ?_)
        refine w_cond rfl rfl (fun h102 => ?_) (fun h102 => ?_)
        ·
          try simp only [Bool.not_eq_true', Bool.not_eq_false', decide_eq_true_eq, decide_eq_false_iff_not, Int.not_lt, Int.not_le] at h102
          refine w_seq (fun K104 hK103 => ?_)
          refine w_region ?_
          refine w_store (i := 4) (v := .int _ _) (vs := [_]) want_none Try.sizeOf3 rfl rfl rfl rfl rfl (by simp [Value.oneCell']) hs rfl (Nat.le_of_ble_eq_true rfl) (fun w105 hs106 => ?_)
          refine w_store (i := 3) (v := .int _ _) (vs := [_]) want_none Try.sizeOf28 rfl rfl rfl rfl rfl (by simp [Value.oneCell']) hs106 rfl (Nat.le_of_ble_eq_true rfl) (fun w107 hs108 => ?_)
          refine w_nil ?_
          refine q_then (hK103 _ _ ?_)
          refine w_ret ?_
          refine q_then_ret ?_
          refine q_retM (i := 0) (l := [.cell 4 3, .cell 5 28]) (vs := [_, _]) hs108 rfl rfl (fun w109 hs110 => ⟨⟨⟨rfl, _, rfl, run_loadVar1 Try.isAgg3 hs110 (ats_own (i := 4) (vs := [_]) rfl rfl)⟩, ⟨rfl, _, rfl, run_loadVar1 Try.isAgg28 hs110 (ats_own (i := 3) (vs := [_]) rfl rfl)⟩, trivial⟩, ?_⟩)
          first
            | (obtain ⟨e1, e2⟩ := held_e1 (p := p) (z := z) (by assumption); rw [e1, e2]; exact ⟨rfl, hs110.tail.tail.tail.tail.tail.tail.tail.tail.tail.tail⟩)
            | (obtain ⟨e1, e2⟩ := held_e2 (p := p) (z := z) (by assumption) (by assumption); rw [e1, e2]; exact ⟨rfl, hs110.tail.tail.tail.tail.tail.tail.tail.tail.tail.tail⟩)
            | (obtain ⟨e1, e2⟩ := held_never (p := p) (f := f) (by assumption) hfo hnv hdc; rw [e1, e2]; exact ⟨rfl, hs110.tail.tail.tail.tail.tail.tail.tail.tail.tail.tail⟩)
            | (obtain ⟨e1, e2⟩ := held_down (p := p) (f := f) (by assumption) hfo (by omega); rw [e1, e2]; exact ⟨rfl, hs110.tail.tail.tail.tail.tail.tail.tail.tail.tail.tail⟩)
            | (rw [anyNever_all (by simp [doP])] at hnv; obtain ⟨e1, e2⟩ := held_some (p := p) (f := f) (by assumption) hfo hnv (by omega); rw [e1, e2, ← heldUpto_all (i := (doC p).length) (by simp [doP])]; exact ⟨rfl, hs110.tail.tail.tail.tail.tail.tail.tail.tail.tail.tail⟩)
        ·
          try simp only [Bool.not_eq_true', Bool.not_eq_false', decide_eq_true_eq, decide_eq_false_iff_not, Int.not_lt, Int.not_le] at h102
          refine w_skip ?_
          refine q_then (hK98 _ _ ?_)
          refine w_seq (fun K112 hK111 => ?_)
          refine w_region ?_
          refine w_pure want_none (y_load1 Try.isAgg3 hs rfl rfl (ats_own (i := 2) (vs := [_]) rfl rfl)) rfl ?_
          refine w_store (i := 4) (v := .int _ _) (vs := [_]) want_none Try.sizeOf3 rfl rfl rfl rfl rfl (by simp [Value.oneCell']) hs rfl (Nat.le_of_ble_eq_true rfl) (fun w113 hs114 => ?_)
          refine w_store (i := 3) (v := .int _ _) (vs := [_]) want_none Try.sizeOf28 rfl rfl rfl rfl rfl (by simp [Value.oneCell']) hs114 rfl (Nat.le_of_ble_eq_true rfl) (fun w115 hs116 => ?_)
          refine w_nil ?_
          refine q_then (hK111 _ _ ?_)
          refine w_ret ?_
          refine q_retM (i := 0) (l := [.cell 4 3, .cell 5 28]) (vs := [_, _]) hs116 rfl rfl (fun w117 hs118 => ⟨⟨⟨rfl, _, rfl, run_loadVar1 Try.isAgg3 hs118 (ats_own (i := 4) (vs := [_]) rfl rfl)⟩, ⟨rfl, _, rfl, run_loadVar1 Try.isAgg28 hs118 (ats_own (i := 3) (vs := [_]) rfl rfl)⟩, trivial⟩, ?_⟩)
          first
            | (obtain ⟨e1, e2⟩ := held_e1 (p := p) (z := z) (by assumption); rw [e1, e2]; exact ⟨rfl, hs118.tail.tail.tail.tail.tail.tail.tail.tail.tail.tail⟩)
            | (obtain ⟨e1, e2⟩ := held_e2 (p := p) (z := z) (by assumption) (by assumption); rw [e1, e2]; exact ⟨rfl, hs118.tail.tail.tail.tail.tail.tail.tail.tail.tail.tail⟩)
            | (obtain ⟨e1, e2⟩ := held_never (p := p) (f := f) (by assumption) hfo hnv hdc; rw [e1, e2]; exact ⟨rfl, hs118.tail.tail.tail.tail.tail.tail.tail.tail.tail.tail⟩)
            | (obtain ⟨e1, e2⟩ := held_down (p := p) (f := f) (by assumption) hfo (by omega); rw [e1, e2]; exact ⟨rfl, hs118.tail.tail.tail.tail.tail.tail.tail.tail.tail.tail⟩)
            | (rw [anyNever_all (by simp [doP])] at hnv; obtain ⟨e1, e2⟩ := held_some (p := p) (f := f) (by assumption) hfo hnv (by omega); rw [e1, e2, ← heldUpto_all (i := (doC p).length) (by simp [doP])]; exact ⟨rfl, hs118.tail.tail.tail.tail.tail.tail.tail.tail.tail.tail⟩)
      ·
        intro bd c Bx w119 hJ hs
        obtain ⟨rfl, ⟨x, y, rfl⟩, hnv, hdc⟩ := hJ
        replace hs := (show St _ _ (_ :: _ :: _ :: _ :: _ :: _ :: _ :: _ :: _ :: _ :: F) from hs)
        refine w_ret ?_
        refine q_blk_ret ?_
        refine q_then_ret ?_
        refine q_retM (i := 0) (l := [.cell 4 3, .cell 5 28]) (vs := [_, _]) hs rfl rfl (fun w120 hs121 => ⟨⟨⟨rfl, _, rfl, run_loadVar1 Try.isAgg3 hs121 (ats_own (i := 4) (vs := [_]) rfl rfl)⟩, ⟨rfl, _, rfl, run_loadVar1 Try.isAgg28 hs121 (ats_own (i := 3) (vs := [_]) rfl rfl)⟩, trivial⟩, ?_⟩)
        first
          | (obtain ⟨e1, e2⟩ := held_e1 (p := p) (z := z) (by assumption); rw [e1, e2]; exact ⟨rfl, hs121.tail.tail.tail.tail.tail.tail.tail.tail.tail.tail⟩)
          | (obtain ⟨e1, e2⟩ := held_e2 (p := p) (z := z) (by assumption) (by assumption); rw [e1, e2]; exact ⟨rfl, hs121.tail.tail.tail.tail.tail.tail.tail.tail.tail.tail⟩)
          | (obtain ⟨e1, e2⟩ := held_never (p := p) (f := f) (by assumption) hfo hnv hdc; rw [e1, e2]; exact ⟨rfl, hs121.tail.tail.tail.tail.tail.tail.tail.tail.tail.tail⟩)
          | (obtain ⟨e1, e2⟩ := held_down (p := p) (f := f) (by assumption) hfo (by omega); rw [e1, e2]; exact ⟨rfl, hs121.tail.tail.tail.tail.tail.tail.tail.tail.tail.tail⟩)
          | (rw [anyNever_all (by simp [doP])] at hnv; obtain ⟨e1, e2⟩ := held_some (p := p) (f := f) (by assumption) hfo hnv (by omega); rw [e1, e2, ← heldUpto_all (i := (doC p).length) (by simp [doP])]; exact ⟨rfl, hs121.tail.tail.tail.tail.tail.tail.tail.tail.tail.tail⟩)

theorem told_e1 {p : Port} {z : Int} (h : ¬ (check p).2.2 = 0) : toldD p z = 0 ∧ toldE p z = (check p).2.2 := by
  unfold toldD toldE
  rw [if_neg (fun hh => h hh.1), if_neg h]; exact ⟨rfl, rfl⟩
theorem told_e2 {p : Port} {z : Int} (h : (check p).2.2 = 0) (h2 : [z].any (out 0 10) = true) : toldD p z = 0 ∧ toldE p z = 7 := by
  simp only [List.any_cons, List.any_nil, Bool.or_false] at h2
  unfold toldD toldE
  rw [h2]; simp [h]
theorem told_d {z : Int} (h2 : [z].any (out 0 10) = false) : ∃ d : Nat, z = d ∧ d ≤ 10 ∧ out 0 10 z = false := by
  simp only [List.any_cons, List.any_nil, Bool.or_false] at h2
  have := (out_iff _ _ _).1 h2
  exact ⟨z.toNat, by omega, by omega, h2⟩
theorem told_e3 {p : Port} {d : Nat} (h : (check p).2.2 = 0) (h2 : out 0 10 (d : Int) = false) (h3 : told p d < 0) : toldD p d = 0 ∧ toldE p d = 9 := by
  unfold toldD toldE
  rw [h2, Int.toNat_natCast]; simp [h, h3]; omega
theorem told_ok {p : Port} {d : Nat} (h : (check p).2.2 = 0) (h2 : out 0 10 (d : Int) = false) (h3 : 0 ≤ told p d) : toldD p d = told p d ∧ toldE p d = 0 := by
  unfold toldD toldE
  rw [h2, Int.toNat_natCast]; simp [h, h3]
theorem c33 {w0 w : World} {F : List (Nat × Obj)} (p : Port) (a : Option Addr) (c : Nat) (hl3 : p.farms.length ≤ 9223372036854775807) (hc : p.farms.length ≤ c) (ha : Sl w0 F a 6 (rows p.farms)) (hnm : ∀ f ∈ p.farms, f.name.size ≤ 9223372036854775807) (z : Int) (hs : St w0 w F) :
  Con Try.prog 33 [.agg (p.cells a c).toArray, .int .i64 z] w fun v w' => v = .tuple #[.int .i64 (toldD p z), .int .i64 (toldE p z)] ∧ St w0 w' F := by
  refine con_of_wcM (n := 52) Try.func33 rfl rfl (Nat.le_of_ble_eq_true rfl) ?_
  refine w_seq (fun K2 hK1 => ?_)
  refine w_region ?_
  refine w_box (v := .agg #[.int _ _, .int _ _, .int _ _, .slice _ _ _]) (cs := [_, _, _, _]) want_none rfl rfl rfl hs (fun b3 w4 hs5 => ?_)
  refine w_box (v := .int _ _) (cs := [_]) want_none rfl rfl rfl hs5 (fun b6 w7 hs8 => ?_)
  refine w_pure want_none (y_assign (v := _) rfl rfl) rfl ?_
  refine w_pure want_none (y_assign (v := _) rfl rfl) rfl ?_
  refine w_nil ?_
  refine q_then (hK1 _ _ ?_)
  refine w_seq (fun K10 hK9 => ?_)
  refine w_region ?_
  refine w_pure want_none (y_loadN (vs := [_, _, _, _]) Try.isAgg26 Try.sizeOf26 hs8 rfl rfl (ats_own (i := 1) (vs := [_, _, _, _]) rfl rfl)) rfl ?_
  refine w_call want_none Try.call16 rfl rfl rfl rfl (c16 p _ _ (by omega) (by omega) ha.cons.cons hnm hs8) ?_
  rintro _ w12 ⟨rfl, hs13⟩
  refine w_pure want_none (y_move (v := .tuple _) rfl rfl) rfl ?_
  refine w_pure want_none (y_extract (v := .int _ _) rfl rfl rfl) rfl ?_
  refine w_pure want_none (y_extract (v := .int _ _) rfl rfl rfl) rfl ?_
  refine w_pure want_none (y_extract (v := .int _ _) rfl rfl rfl) rfl ?_
  refine w_pure want_none (y_assign (v := .int _ _) rfl rfl) rfl ?_
  refine w_pure want_none (y_assign (v := .int _ _) rfl rfl) rfl ?_
  refine w_pure want_none (y_assign (v := .int _ _) rfl rfl) rfl ?_
  refine w_nil ?_
  refine q_then (hK9 _ _ ?_)
  refine w_seq (fun K15 hK14 => ?_)
  refine w_block ?_
  refine w_seq (fun K17 hK16 => ?_)
  refine w_region ?_
  refine w_pure want_none (y_move (v := .int _ _) rfl rfl) rfl ?_
  refine w_pure want_none (y_neq rfl rfl rfl rfl) rfl ?_
  refine w_pure want_none (y_assign (v := .bool _) rfl rfl) rfl ?_
  refine w_nil ?_
  refine q_then (hK16 _ _ ?_)
  refine w_cond rfl rfl (fun h18 => ?_) (fun h18 => ?_)
  ·
    try simp only [Bool.not_eq_true', Bool.not_eq_false', decide_eq_true_eq, decide_eq_false_iff_not, Int.not_lt, Int.not_le] at h18
    refine w_seq (fun K20 hK19 => ?_)
    refine w_region ?_
    refine w_pure want_none (y_move (v := .int _ _) rfl rfl) rfl ?_
    refine w_pure want_none (y_assign (v := _) rfl rfl) rfl ?_
    refine w_pure want_none (y_assign (v := .int _ _) rfl rfl) rfl ?_
    refine w_nil ?_
    refine q_then (hK19 _ _ ?_)
    refine w_ret ?_
    refine q_blk_ret ?_
    refine q_then_ret ?_
    refine q_retM0 (l := [.tmp 4, .tmp 5]) (vs := [_, _]) rfl ⟨⟨rfl, show _ = (.int _ _ : Value) from rfl⟩, ⟨rfl, show _ = (.int _ _ : Value) from rfl⟩, trivial⟩ ?_
    first
      | (obtain ⟨e1, e2⟩ := told_e1 (p := p) (z := z) (by assumption); rw [e1, e2]; exact ⟨rfl, hs13.tail.tail⟩)
      | (obtain ⟨e1, e2⟩ := told_e2 (p := p) (z := z) (by assumption) (by assumption); rw [e1, e2]; exact ⟨rfl, hs13.tail.tail⟩)
      | (have hall := toldUpto_all (p := p) (d := d) (i := (((allC d p.farms.length).map pad).map ia).length) (by simp); obtain ⟨e1, e2⟩ := told_e3 (p := p) (d := d) (by assumption) hdo (by omega); rw [e1, e2]; exact ⟨rfl, hs13.tail.tail⟩)
      | (have hall := toldUpto_all (p := p) (d := d) (i := (((allC d p.farms.length).map pad).map ia).length) (by simp); obtain ⟨e1, e2⟩ := told_ok (p := p) (d := d) (by assumption) hdo (by omega); rw [e1, e2, ← hall]; exact ⟨rfl, hs13.tail.tail⟩)
  ·
    try simp only [Bool.not_eq_true', Bool.not_eq_false', decide_eq_true_eq, decide_eq_false_iff_not, Int.not_lt, Int.not_le] at h18
    refine w_seq (fun K22 hK21 => ?_)
    have hok := check_ok (by assumption)
    have hlen3 := hok.len
    refine w_region ?_
    refine w_pure want_none (y_load1 Try.isAgg3 hs13 rfl rfl (ats_own (i := 0) (vs := [_]) rfl rfl)) rfl ?_
    refine w_bslice (ps := [(0, _)]) (pv := [(0, .int _ _)]) (cs := [_]) want_none rfl rfl (fun w => Try_P_fb8 _ w) hs13 (fun b23 w24 hs25 => ?_)
    refine w_call want_none Try.call48 rfl rfl rfl rfl (c48 _ _ _ [_] _ (by simp) (sl_own (i := 0) (rows := [[_]]) rfl (by simp) rfl) hs25) ?_
    rintro _ w27 ⟨rfl, hs28⟩
    refine w_pure want_none (y_assign (v := .bool _) rfl rfl) rfl ?_
    refine w_nil ?_
    refine q_then (hK21 _ _ ?_)
    refine w_cond rfl rfl (fun h29 => ?_) (fun h29 => ?_)
    ·
      try simp only [Bool.not_eq_true', Bool.not_eq_false', decide_eq_true_eq, decide_eq_false_iff_not, Int.not_lt, Int.not_le] at h29
      refine w_seq (fun K31 hK30 => ?_)
      refine w_region ?_
      refine w_pure want_none (y_assign (v := _) rfl rfl) rfl ?_
      refine w_pure want_none (y_assign (v := _) rfl rfl) rfl ?_
      refine w_nil ?_
      refine q_then (hK30 _ _ ?_)
      refine w_ret ?_
      refine q_blk_ret ?_
      refine q_then_ret ?_
      refine q_retM0 (l := [.tmp 4, .tmp 5]) (vs := [_, _]) rfl ⟨⟨rfl, show _ = (.int _ _ : Value) from rfl⟩, ⟨rfl, show _ = (.int _ _ : Value) from rfl⟩, trivial⟩ ?_
      first
        | (obtain ⟨e1, e2⟩ := told_e1 (p := p) (z := z) (by assumption); rw [e1, e2]; exact ⟨rfl, hs28.tail.tail.tail⟩)
        | (obtain ⟨e1, e2⟩ := told_e2 (p := p) (z := z) (by assumption) (by assumption); rw [e1, e2]; exact ⟨rfl, hs28.tail.tail.tail⟩)
        | (have hall := toldUpto_all (p := p) (d := d) (i := (((allC d p.farms.length).map pad).map ia).length) (by simp); obtain ⟨e1, e2⟩ := told_e3 (p := p) (d := d) (by assumption) hdo (by omega); rw [e1, e2]; exact ⟨rfl, hs28.tail.tail.tail⟩)
        | (have hall := toldUpto_all (p := p) (d := d) (i := (((allC d p.farms.length).map pad).map ia).length) (by simp); obtain ⟨e1, e2⟩ := told_ok (p := p) (d := d) (by assumption) hdo (by omega); rw [e1, e2, ← hall]; exact ⟨rfl, hs28.tail.tail.tail⟩)
    ·
      try simp only [Bool.not_eq_true', Bool.not_eq_false', decide_eq_true_eq, decide_eq_false_iff_not, Int.not_lt, Int.not_le] at h29
      refine w_skip ?_
      refine q_blk_normal ?_
      refine q_then (hK14 _ _ ?_)
      refine w_seq (fun K33 hK32 => ?_)
      have hs34 := hs28.tail
      obtain ⟨d, rfl, hd10, hdo⟩ := told_d (by assumption)
      refine w_region ?_
      refine w_pure want_none (y_loadN (vs := [_, _, _, _]) Try.isAgg26 Try.sizeOf26 hs34 rfl rfl (ats_own (i := 1) (vs := [_, _, _, _]) rfl rfl)) rfl ?_
      refine w_call want_none Try.call58 rfl rfl rfl rfl (c58 p _ _ hs34) ?_
      rintro _ w36 ⟨m, pb, rfl, hs37⟩
      refine w_alloc (cs := [_]) want_none Try.zeroValue81 rfl hs37 (fun b38 w39 hs40 => ?_)
      refine w_store (i := 0) (v := .pointer _) (vs := [_]) want_none Try.sizeOf81 rfl rfl rfl rfl rfl (by simp [Value.oneCell']) hs40 rfl (Nat.le_of_ble_eq_true rfl) (fun w41 hs42 => ?_)
      refine w_nil ?_
      refine q_then (hK32 _ _ ?_)
      refine w_seq (fun K44 hK43 => ?_)
      refine w_region ?_
      refine w_alloc (cs := [_]) want_none Try.zeroValue3 rfl hs42 (fun b45 w46 hs47 => ?_)
      refine w_store (i := 0) (v := .int _ _) (vs := [_]) want_none Try.sizeOf3 rfl rfl rfl rfl rfl (by simp [Value.oneCell']) hs47 rfl (Nat.le_of_ble_eq_true rfl) (fun w48 hs49 => ?_)
      refine w_nil ?_
      refine q_then (hK43 _ _ ?_)
      refine w_seq (fun K51 hK50 => ?_)
      refine w_seq (fun K53 hK52 => ?_)
      refine w_region ?_
      refine w_pure want_none (y_load1 Try.isAgg81 hs49 rfl rfl (ats_own (i := 1) (vs := [_]) rfl rfl)) rfl ?_
      refine w_pure want_none (y_load1 Try.isAgg3 hs49 rfl rfl (ats_own (i := 4) (vs := [_]) rfl rfl)) rfl ?_
      refine w_call want_none Try.call66 rfl rfl rfl rfl (c66 _ _ hs49) ?_
      rintro _ w55 ⟨bp, bb, rfl, hs56⟩
      refine w_nil ?_
      refine q_then (hK52 _ _ ?_)
      refine w_block ?_
      refine w_range ([_]) (fun i Bx => Bx = [(b45, blk 3 [.int .i64 (toldUpto p d i)])]) (fun _ _ => False) rfl rfl rfl Try.call87 (all_iter (F := ((bb, blk 3 [.int .i64 (d : Int)]) :: (bp, blk 81 [.pointer (some ⟨pb, 0, none⟩)]) :: (b38, blk 81 [.pointer (some ⟨pb, 0, none⟩)]) :: (m, .map #[] 0) :: (pb, blk 119 [.int .i64 p.hold, .int .i64 p.clo, .int .i64 p.chi, .slice a p.farms.length c, .map (some m)]) :: (b6, blk 3 [.int .i64 (d : Int)]) :: (b3, blk 26 (p.cells a c)) :: F)) p a c m pb (ats_own (i := 4) (vs := [_, _, _, _, _]) rfl rfl) ha.cons.cons.cons.cons.cons.cons.cons hok d bp bb (by omega) (ats_own (i := 1) (vs := [_]) rfl rfl) (ats_own (i := 0) (vs := [_]) rfl rfl)) hs56 (perm_mid [_, _] [_] _) rfl ?_ ?_ ?_
      ·
        intro lp i hi Bx Xr Xr2 w58 hJ hs K hK57
        subst hJ
        have hi2 : i < ((allC d p.farms.length).map pad).length := by simpa using hi
        rw [List.getElem_map]
        have hlen : (((allC d p.farms.length).map pad)[i]).length = 3 := by rw [List.getElem_map]; exact pad_len _
        have hl1 : ∀ y ∈ ((allC d p.farms.length).map pad)[i], -1 ≤ y ∧ y ≤ 10 := by rw [List.getElem_map]; exact allpad_in (by omega) _
        obtain ⟨l, hl⟩ : ∃ l, l = ((allC d p.farms.length).map pad)[i] := ⟨_, rfl⟩
        rw [← hl] at hlen hl1 ⊢
        replace hs := (show St _ _ (_ :: (Xr ++ (_ :: _ :: _ :: _ :: _ :: _ :: _ :: F))) from hs)
        have hb3 : Ats w0 ((bb, blk 3 [.int .i64 (d : Int)]) :: (bp, blk 81 [.pointer (some ⟨pb, 0, none⟩)]) :: (b38, blk 81 [.pointer (some ⟨pb, 0, none⟩)]) :: (m, .map #[] 0) :: (pb, blk 119 [.int .i64 p.hold, .int .i64 p.clo, .int .i64 p.chi, .slice a p.farms.length c, .map (some m)]) :: (b6, blk 3 [.int .i64 (d : Int)]) :: (b3, blk 26 (p.cells a c)) :: F) b6 0 [.int .i64 (d : Int)] := ats_own (i := 5) (vs := [_]) rfl rfl
        have hb9 : Ats w0 ((bb, blk 3 [.int .i64 (d : Int)]) :: (bp, blk 81 [.pointer (some ⟨pb, 0, none⟩)]) :: (b38, blk 81 [.pointer (some ⟨pb, 0, none⟩)]) :: (m, .map #[] 0) :: (pb, blk 119 [.int .i64 p.hold, .int .i64 p.clo, .int .i64 p.chi, .slice a p.farms.length c, .map (some m)]) :: (b6, blk 3 [.int .i64 (d : Int)]) :: (b3, blk 26 (p.cells a c)) :: F) b38 0 [.pointer (some ⟨pb, 0, none⟩)] := ats_own (i := 2) (vs := [_]) rfl rfl
        refine w_region ?_
        refine w_alloc (cs := iv [0, 0, 0]) want_none Try.zeroValue83 rfl hs (fun b59 w60 hs61 => ?_)
        refine w_storeI (i := 0) (l := _) want_none Try.sizeOf83 (by first | omega | rfl | (simp only [List.length_map, List.length_set, List.length_append, List.length_take, List.length_drop, List.length_replicate, List.length_cons, List.length_nil] <;> omega)) rfl rfl rfl rfl rfl hs61 rfl (by first | omega | rfl | (simp only [List.length_map, List.length_set, List.length_append, List.length_take, List.length_drop, List.length_replicate, List.length_cons, List.length_nil] <;> omega)) (fun w62 hs63 => ?_)
        refine w_nil ?_
        refine q_then (hK57 _ _ (_ :: _ :: []) hs63 (fun w64 hs65 => ?_))
        replace hs65 := (show St _ _ (_ :: _ :: Xr2 ++ (_ :: _ :: _ :: _ :: _ :: _ :: _ :: F)) from hs65)
        refine w_block ?_
        refine w_seq (fun K67 hK66 => ?_)
        refine w_region ?_
        refine w_pure want_none (y_load1 Try.isAgg81 hs65.tail.tail.drop rfl rfl hb9) rfl ?_
        refine w_pure want_none (y_loadI (i := 0) Try.isAgg83 Try.sizeOf83 (by first | omega | rfl | (simp only [List.length_map, List.length_set, List.length_append, List.length_take, List.length_drop, List.length_replicate, List.length_cons, List.length_nil] <;> omega)) hs65 rfl rfl rfl) rfl ?_
        refine w_pure want_none (y_load1 Try.isAgg3 hs65.tail.tail.drop rfl rfl hb3) rfl ?_
        refine w_call want_none Try.call67 rfl rfl rfl rfl (c67 (F := _ :: _ :: (Xr2 ++ ((bb, blk 3 [.int .i64 (d : Int)]) :: (bp, blk 81 [.pointer (some ⟨pb, 0, none⟩)]) :: (b38, blk 81 [.pointer (some ⟨pb, 0, none⟩)]) :: (m, .map #[] 0) :: (pb, blk 119 [.int .i64 p.hold, .int .i64 p.clo, .int .i64 p.chi, .slice a p.farms.length c, .map (some m)]) :: (b6, blk 3 [.int .i64 (d : Int)]) :: (b3, blk 26 (p.cells a c)) :: F))) p _ c m pb (ats_own (i := 4) (vs := [_, _, _, _, _]) rfl rfl).app.cons.cons ha.cons.cons.cons.cons.cons.cons.cons.app.cons.cons hok l hlen hl1 _ (by omega) (by omega) hs65) ?_
        rintro _ w69 ⟨rfl, hs70⟩
        refine w_pure want_none (y_assign (v := .int _ _) rfl rfl) rfl ?_
        refine w_nil ?_
        refine q_then (hK66 _ _ ?_)
        refine w_seq (fun K72 hK71 => ?_)
        refine w_region ?_
        refine w_pure want_none (y_move (v := .int _ _) rfl rfl) rfl ?_
        refine w_pure want_none (y_geq rfl rfl rfl rfl) rfl ?_
        refine w_pure want_none (y_move (v := .bool _) rfl rfl) rfl ?_
        refine w_split (fun h73 => ?_) (fun h73 => ?_)
        ·
          try simp only [Bool.not_eq_true', Bool.not_eq_false', decide_eq_true_eq, decide_eq_false_iff_not, Int.not_lt, Int.not_le] at h73
          refine w_pure (want_yes rfl rfl rfl) (y_load1 Try.isAgg3 hs70 rfl rfl (ats_own (i := 1) (vs := [_]) rfl rfl)) rfl ?_
          refine w_pure (want_yes rfl rfl rfl) (y_lss rfl rfl rfl rfl) rfl ?_
          refine w_pure (want_yes rfl rfl rfl) (y_move (v := .bool _) rfl rfl) rfl ?_
          refine w_split (fun h74 => ?_) (fun h74 => ?_)
          ·
            try simp only [Bool.not_eq_true', Bool.not_eq_false', decide_eq_true_eq, decide_eq_false_iff_not, Int.not_lt, Int.not_le] at h74
            refine w_skipop rfl rfl rfl ?_
            refine w_skipop rfl rfl rfl ?_
            refine w_skipop rfl rfl rfl ?_
            refine w_pure (want_yes rfl rfl rfl) (y_pickT (v := _) rfl rfl rfl rfl) rfl ?_
            refine w_pure want_none (y_pickT (v := .bool _) rfl rfl rfl rfl) rfl ?_
            refine w_nil ?_
            refine q_then (hK71 _ _ ?_)
            refine w_condT rfl rfl ?_
            refine w_region ?_
            refine w_pure want_none (y_move (v := .int _ _) rfl rfl) rfl ?_
            refine w_store (i := 1) (v := .int _ _) (vs := [_]) want_none Try.sizeOf3 rfl rfl rfl rfl rfl (by simp [Value.oneCell']) hs70 rfl (Nat.le_of_ble_eq_true rfl) (fun w75 hs76 => ?_)
            refine w_nil ?_
            refine q_blk_normal ?_
            refine rd_normal (_ :: []) hs76.tail ?_
            first
              | (show [_] = [_]; rw [toldUpto_succ hi2, ← hl, ← told_yes (p := p) (l := l) (day := (d : Int)) (n := toldUpto p d i) (by assumption) (by omega)]; rfl)
              | (show [_] = [_]; rw [toldUpto_succ hi2, ← hl, ← told_no (p := p) (l := l) (day := (d : Int)) (n := toldUpto p d i) (by omega)])
          ·
            try simp only [Bool.not_eq_true', Bool.not_eq_false', decide_eq_true_eq, decide_eq_false_iff_not, Int.not_lt, Int.not_le] at h74
            refine w_pure (want_yes rfl rfl rfl) (y_move (v := .int _ _) rfl rfl) rfl ?_
            refine w_pure (want_yes rfl rfl rfl) (y_load1 Try.isAgg3 hs70 rfl rfl (ats_own (i := 1) (vs := [_]) rfl rfl)) rfl ?_
            refine w_pure (want_yes rfl rfl rfl) (y_lss rfl rfl rfl rfl) rfl ?_
            refine w_pure (want_yes rfl rfl rfl) (y_pickF (v := .bool _) rfl rfl rfl rfl) rfl ?_
            refine w_pure want_none (y_pickT (v := .bool _) rfl rfl rfl rfl) rfl ?_
            refine w_nil ?_
            refine q_then (hK71 _ _ ?_)
            refine w_cond rfl rfl (fun h77 => ?_) (fun h77 => ?_)
            ·
              try simp only [Bool.not_eq_true', Bool.not_eq_false', decide_eq_true_eq, decide_eq_false_iff_not, Int.not_lt, Int.not_le] at h77
              refine w_region ?_
              refine w_pure want_none (y_move (v := .int _ _) rfl rfl) rfl ?_
              refine w_store (i := 1) (v := .int _ _) (vs := [_]) want_none Try.sizeOf3 rfl rfl rfl rfl rfl (by simp [Value.oneCell']) hs70 rfl (Nat.le_of_ble_eq_true rfl) (fun w78 hs79 => ?_)
              refine w_nil ?_
              refine q_blk_normal ?_
              refine rd_normal (_ :: []) hs79.tail ?_
              first
                | (show [_] = [_]; rw [toldUpto_succ hi2, ← hl, ← told_yes (p := p) (l := l) (day := (d : Int)) (n := toldUpto p d i) (by assumption) (by omega)]; rfl)
                | (show [_] = [_]; rw [toldUpto_succ hi2, ← hl, ← told_no (p := p) (l := l) (day := (d : Int)) (n := toldUpto p d i) (by omega)])
            ·
              try simp only [Bool.not_eq_true', Bool.not_eq_false', decide_eq_true_eq, decide_eq_false_iff_not, Int.not_lt, Int.not_le] at h77
              refine w_skip ?_
              refine q_blk_normal ?_
              refine rd_normal (_ :: []) hs70.tail ?_
              first
                | (show [_] = [_]; rw [toldUpto_succ hi2, ← hl, ← told_yes (p := p) (l := l) (day := (d : Int)) (n := toldUpto p d i) (by assumption) (by omega)]; rfl)
                | (show [_] = [_]; rw [toldUpto_succ hi2, ← hl, ← told_no (p := p) (l := l) (day := (d : Int)) (n := toldUpto p d i) (by omega)])
        ·
          try simp only [Bool.not_eq_true', Bool.not_eq_false', decide_eq_true_eq, decide_eq_false_iff_not, Int.not_lt, Int.not_le] at h73
          refine w_skipop rfl rfl rfl ?_
          refine w_skipop rfl rfl rfl ?_
          refine w_skipop rfl rfl rfl ?_
          refine w_skipop' rfl rfl rfl ?_
          refine w_skipop' rfl rfl rfl ?_
          refine w_skipop' rfl rfl rfl ?_
          refine w_skipop rfl rfl rfl ?_
          refine w_pure want_none (y_pickF (v := _) rfl rfl rfl rfl) rfl ?_
          refine w_nil ?_
          refine q_then (hK71 _ _ ?_)
          refine w_condF rfl rfl ?_
          refine w_skip ?_
          refine q_blk_normal ?_
          refine rd_normal (_ :: []) hs70.tail ?_
          first
            | (show [_] = [_]; rw [toldUpto_succ hi2, ← hl, ← told_yes (p := p) (l := l) (day := (d : Int)) (n := toldUpto p d i) (by assumption) (by omega)]; rfl)
            | (show [_] = [_]; rw [toldUpto_succ hi2, ← hl, ← told_no (p := p) (l := l) (day := (d : Int)) (n := toldUpto p d i) (by omega)])
      ·
        intro bd Bx w80 hJ hs
        subst hJ
        replace hs := (show St _ _ (_ :: _ :: _ :: _ :: _ :: _ :: _ :: _ :: _ :: F) from hs)
        refine q_blk_normal ?_
        refine q_then (hK50 _ _ ?_)
        refine w_seq (fun K82 hK81 => ?_)
        refine w_seq (fun K84 hK83 => ?_)
        refine w_region ?_
        refine w_pure want_none (y_load1 Try.isAgg3 hs rfl rfl (ats_own (i := 1) (vs := [_]) rfl rfl)) rfl ?_
        refine w_pure want_none (y_lss rfl rfl rfl rfl) rfl ?_
        refine w_nil ?_
        refine q_then (hK83 _ _ ?_)
        refine w_cond rfl rfl (fun h85 => ?_) (fun h85 => ?_)
        ·
          try simp only [Bool.not_eq_true', Bool.not_eq_false', decide_eq_true_eq, decide_eq_false_iff_not, Int.not_lt, Int.not_le] at h85
          refine w_seq (fun K87 hK86 => ?_)
          refine w_region ?_
          refine w_pure want_none (y_assign (v := _) rfl rfl) rfl ?_
          refine w_pure want_none (y_assign (v := _) rfl rfl) rfl ?_
          refine w_nil ?_
          refine q_then (hK86 _ _ ?_)
          refine w_ret ?_
          refine q_then_ret ?_
          refine q_retM (i := 0) (l := [.tmp 4, .tmp 5]) (vs := [_, _]) hs rfl rfl (fun w88 hs89 => ⟨⟨⟨rfl, show _ = (.int _ _ : Value) from rfl⟩, ⟨rfl, show _ = (.int _ _ : Value) from rfl⟩, trivial⟩, ?_⟩)
          first
            | (obtain ⟨e1, e2⟩ := told_e1 (p := p) (z := z) (by assumption); rw [e1, e2]; exact ⟨rfl, hs89.tail.tail.tail.tail.tail.tail.tail.tail.tail⟩)
            | (obtain ⟨e1, e2⟩ := told_e2 (p := p) (z := z) (by assumption) (by assumption); rw [e1, e2]; exact ⟨rfl, hs89.tail.tail.tail.tail.tail.tail.tail.tail.tail⟩)
            | (have hall := toldUpto_all (p := p) (d := d) (i := (((allC d p.farms.length).map pad).map ia).length) (by simp); obtain ⟨e1, e2⟩ := told_e3 (p := p) (d := d) (by assumption) hdo (by omega); rw [e1, e2]; exact ⟨rfl, hs89.tail.tail.tail.tail.tail.tail.tail.tail.tail⟩)
            | (have hall := toldUpto_all (p := p) (d := d) (i := (((allC d p.farms.length).map pad).map ia).length) (by simp); obtain ⟨e1, e2⟩ := told_ok (p := p) (d := d) (by assumption) hdo (by omega); rw [e1, e2, ← hall]; exact ⟨rfl, hs89.tail.tail.tail.tail.tail.tail.tail.tail.tail⟩)
        ·
          try simp only [Bool.not_eq_true', Bool.not_eq_false', decide_eq_true_eq, decide_eq_false_iff_not, Int.not_lt, Int.not_le] at h85
          refine w_skip ?_
          refine q_then (hK81 _ _ ?_)
          refine w_seq (fun K91 hK90 => ?_)
          refine w_region ?_
          refine w_pure want_none (y_load1 Try.isAgg3 hs rfl rfl (ats_own (i := 1) (vs := [_]) rfl rfl)) rfl ?_
          refine w_pure want_none (y_assign (v := .int _ _) rfl rfl) rfl ?_
          refine w_pure want_none (y_assign (v := _) rfl rfl) rfl ?_
          refine w_nil ?_
          refine q_then (hK90 _ _ ?_)
          refine w_ret ?_
          refine q_retM (i := 0) (l := [.tmp 4, .tmp 5]) (vs := [_, _]) hs rfl rfl (fun w92 hs93 => ⟨⟨⟨rfl, show _ = (.int _ _ : Value) from rfl⟩, ⟨rfl, show _ = (.int _ _ : Value) from rfl⟩, trivial⟩, ?_⟩)
          first
            | (obtain ⟨e1, e2⟩ := told_e1 (p := p) (z := z) (by assumption); rw [e1, e2]; exact ⟨rfl, hs93.tail.tail.tail.tail.tail.tail.tail.tail.tail⟩)
            | (obtain ⟨e1, e2⟩ := told_e2 (p := p) (z := z) (by assumption) (by assumption); rw [e1, e2]; exact ⟨rfl, hs93.tail.tail.tail.tail.tail.tail.tail.tail.tail⟩)
            | (have hall := toldUpto_all (p := p) (d := d) (i := (((allC d p.farms.length).map pad).map ia).length) (by simp); obtain ⟨e1, e2⟩ := told_e3 (p := p) (d := d) (by assumption) hdo (by omega); rw [e1, e2]; exact ⟨rfl, hs93.tail.tail.tail.tail.tail.tail.tail.tail.tail⟩)
            | (have hall := toldUpto_all (p := p) (d := d) (i := (((allC d p.farms.length).map pad).map ia).length) (by simp); obtain ⟨e1, e2⟩ := told_ok (p := p) (d := d) (by assumption) hdo (by omega); rw [e1, e2, ← hall]; exact ⟨rfl, hs93.tail.tail.tail.tail.tail.tail.tail.tail.tail⟩)
      ·
        intro _ _ _ _ hJ
        exact hJ.elim

end Go.Proofs
