/- Walks of this seat, printed by gen.py over the engine: what each function returns, in whatever world. No conditions but those of each contract. -/
import Derived.Test.YtofoabifbkhkfaaG
import Derived.Test.YtofoabifbkhkfaaCSpec4
set_option linter.unusedVariables false
set_option linter.unusedSimpArgs false
set_option maxRecDepth 20000
namespace Go.Proofs
open Go.Rt
attribute [local irreducible] WL WC Con Yd At Ats Sl Agree DW
theorem Try_H_fb5 (x0 : Int) (x1 : Int) (x2 : Int) (x3 : Option Addr) (l3 c3 : Nat) (x4 : Option Nat) (w : World) : (Instr.build 119 [(0, .agg #[.int .i64 x0, .int .i64 x1, .int .i64 x2, .slice x3 l3 c3]), (1, .map x4)].toArray).run Try.prog w = .ok (.agg #[.int .i64 x0, .int .i64 x1, .int .i64 x2, .slice x3 l3 c3, .map x4]) w := by kernel_rfl
theorem pad_copy (l : List Int) : l.take 3 ++ [0, 0, 0].drop l.length = pad l := rfl
theorem enter_e1 {p : Port} {l : List Int} (h : ¬ (check p).2.2 = 0) : enterErr p l = (check p).2.2 := by unfold enterErr; rw [if_pos h]
theorem enter_e2 {p : Port} {l : List Int} (h : (check p).2.2 = 0) (h2 : ¬ l.length = p.farms.length) : enterErr p l = 3 := by unfold enterErr; rw [if_neg (by simpa using h), if_pos h2]
theorem enter_e3 {p : Port} {l : List Int} (h : (check p).2.2 = 0) (h2 : l.length = p.farms.length) (h3 : l.any (out (-1) 10) = true) : enterErr p l = 7 := by unfold enterErr; rw [if_neg (by simpa using h), if_neg (by simpa using h2), if_pos h3]
theorem enter_e0 {p : Port} {l : List Int} (h : (check p).2.2 = 0) (h2 : l.length = p.farms.length) (h3 : l.any (out (-1) 10) = false) : enterErr p l = 0 := by unfold enterErr; rw [if_neg (by simpa using h), if_neg (by simpa using h2), if_neg (by simp [h3])]
theorem look_perm {w0 w : World} {F : List (Nat × Obj)} {x y z : Nat × Obj} (h : St w0 w (x :: y :: z :: F)) : St w0 w (y :: x :: F) := (h.perm (List.Perm.swap _ _ _)).perm (List.Perm.cons _ (List.Perm.swap _ _ _)) |>.perm (List.Perm.swap _ _ _) |>.tail |>.perm (List.Perm.swap _ _ _) |>.perm (List.Perm.swap _ _ _)
theorem c58 {w0 w : World} {F : List (Nat × Obj)} (p : Port) (a : Option Addr) (c : Nat) (hs : St w0 w F) :
  Con Try.prog 58 [.agg (p.cells a c).toArray] w fun v w' => ∃ m pb, v = .pointer (some ⟨pb, 0, none⟩) ∧ St w0 w' ((m, .map #[] 0) :: (pb, blk 119 [.int .i64 p.hold, .int .i64 p.clo, .int .i64 p.chi, .slice a p.farms.length c, .map (some m)]) :: F) := by
  refine con_of_wc (n := 7) Try.func58 rfl rfl (Nat.le_of_ble_eq_true rfl) ?_
  refine w_seq (fun K2 hK1 => ?_)
  refine w_region ?_
  refine w_box (v := .agg #[.int _ _, .int _ _, .int _ _, .slice _ _ _]) (cs := [_, _, _, _]) want_none rfl rfl rfl hs (fun b3 w4 hs5 => ?_)
  refine w_pure want_none (y_assign (v := _) rfl rfl) rfl ?_
  refine w_nil ?_
  refine q_then (hK1 _ _ ?_)
  refine w_seq (fun K7 hK6 => ?_)
  refine w_region ?_
  refine w_pure want_none (y_loadN (vs := [_, _, _, _]) Try.isAgg26 Try.sizeOf26 hs5 rfl rfl (ats_own (i := 0) (vs := [_, _, _, _]) rfl rfl)) rfl ?_
  refine w_makeMap want_none hs5 (fun b8 w9 hs10 => ?_)
  refine w_pure want_none (y_build (ps := [(0, _), (1, _)]) (pv := [(0, .agg #[.int _ _, .int _ _, .int _ _, .slice _ _ _]), (1, .map _)]) rfl rfl (fun w => Try_H_fb5 _ _ _ _ _ _ _ w)) rfl ?_
  refine w_box (v := .agg #[.int _ _, .int _ _, .int _ _, .slice _ _ _, .map _]) (cs := [_, _, _, _, _]) want_none rfl rfl rfl hs10 (fun b11 w12 hs13 => ?_)
  refine w_pure want_none (y_assign (v := .pointer _) rfl rfl) rfl ?_
  refine w_nil ?_
  refine q_then (hK6 _ _ ?_)
  refine w_ret ?_
  refine q_ret (l := [.tmp 2]) (vs := [_]) rfl ⟨⟨rfl, show _ = (.pointer _ : Value) from rfl⟩, trivial⟩ ?_
  exact ⟨_, _, rfl, look_perm hs13⟩

theorem drop_mid {w0 w : World} {F : List (Nat × Obj)} {x y u v : Nat × Obj} (h : St w0 w (x :: y :: u :: v :: F)) : St w0 w (x :: y :: F) :=
  (h.perm (perm_mid [x, y] [u, v] F)).tail.tail
theorem c53 {w0 w : World} {F : List (Nat × Obj)} (p : Port) (a : Option Addr) (c : Nat) (hl3 : p.farms.length ≤ 9223372036854775807) (hc : p.farms.length ≤ c) (ha : Sl w0 F a 6 (rows p.farms)) (hnm : ∀ f ∈ p.farms, f.name.size ≤ 9223372036854775807) (al : Option Addr) (cl : Nat) (l : List Int) (hll : l.length ≤ 9223372036854775807) (hl : Sl w0 F al 1 (l.map fun x => [Value.int .i64 x])) (hs : St w0 w F) :
  Con Try.prog 53 [.agg (p.cells a c).toArray, .slice al l.length cl] w fun v w' => (enterErr p l ≠ 0 ∧ v = .tuple #[.pointer none, ia [0, 0, 0], .int .i64 (enterErr p l)] ∧ St w0 w' F) ∨ (enterErr p l = 0 ∧ ∃ m pb, v = .tuple #[.pointer (some ⟨pb, 0, none⟩), ia (pad l), .int .i64 0] ∧ St w0 w' ((m, .map #[] 0) :: (pb, blk 119 [.int .i64 p.hold, .int .i64 p.clo, .int .i64 p.chi, .slice a p.farms.length c, .map (some m)]) :: F)) := by
  refine con_of_wc (n := 36) Try.func53 rfl rfl (Nat.le_of_ble_eq_true rfl) ?_
  refine w_seq (fun K2 hK1 => ?_)
  refine w_region ?_
  refine w_box (v := .agg #[.int _ _, .int _ _, .int _ _, .slice _ _ _]) (cs := [_, _, _, _]) want_none rfl rfl rfl hs (fun b3 w4 hs5 => ?_)
  refine w_pure want_none (y_assign (v := _) rfl rfl) rfl ?_
  refine w_alloc (cs := iv [0, 0, 0]) want_none Try.zeroValue83 rfl hs5 (fun b6 w7 hs8 => ?_)
  refine w_pure want_none (y_assign (v := _) rfl rfl) rfl ?_
  refine w_nil ?_
  refine q_then (hK1 _ _ ?_)
  refine w_seq (fun K10 hK9 => ?_)
  refine w_region ?_
  refine w_pure want_none (y_loadN (vs := [_, _, _, _]) Try.isAgg26 Try.sizeOf26 hs8 rfl rfl (ats_own (i := 1) (vs := [_, _, _, _]) rfl rfl)) rfl ?_
  refine w_call want_none Try.call16 rfl rfl rfl rfl (c16 p _ _ (by omega) (by omega) ha.cons.cons hnm hs8) ?_
  rintro _ w12 ⟨rfl, hs13⟩
  refine w_pure want_none (y_move (v := .tuple _) rfl rfl) rfl ?_
  refine w_pure want_none (y_extract (v := .int _ _) rfl rfl rfl) rfl ?_
  refine w_pure want_none (y_extract (v := .int _ _) rfl rfl rfl) rfl ?_
  refine w_pure want_none (y_extract (v := .int _ _) rfl rfl rfl) rfl ?_
  refine w_pure want_none (y_assign (v := .int _ _) rfl rfl) rfl ?_
  refine w_nil ?_
  refine q_then (hK9 _ _ ?_)
  refine w_seq (fun K15 hK14 => ?_)
  refine w_block ?_
  refine w_seq (fun K17 hK16 => ?_)
  refine w_region ?_
  refine w_pure want_none (y_move (v := .int _ _) rfl rfl) rfl ?_
  refine w_pure want_none (y_neq rfl rfl rfl rfl) rfl ?_
  refine w_pure want_none (y_assign (v := .bool _) rfl rfl) rfl ?_
  refine w_nil ?_
  refine q_then (hK16 _ _ ?_)
  refine w_cond rfl rfl (fun h18 => ?_) (fun h18 => ?_)
  ·
    try simp only [Bool.not_eq_true', Bool.not_eq_false', decide_eq_true_eq, decide_eq_false_iff_not, Int.not_lt, Int.not_le] at h18
    refine w_seq (fun K20 hK19 => ?_)
    refine w_draw [3] [(0, 1), (1, 0), (2, 0), (3, 3), (4, 0)] Try_mo (by kernel_rfl) hs13 (fun w21 hs22 => ?_)
    refine d_take rfl want_none rfl hs22 (fun _ hq => (y_loadI (i := 0) Try.isAgg83 Try.sizeOf83 (by first | omega | rfl | (simp only [List.length_map, List.length_set, List.length_append, List.length_take, List.length_drop, List.length_replicate, List.length_cons, List.length_nil] <;> omega)) hq rfl rfl rfl)) ?_
    refine d_any rfl want_none rfl (fun _ => (y_move (v := .int _ _) rfl rfl)) ?_
    refine d_any rfl want_none rfl (fun _ => (y_assign (v := _) rfl rfl)) ?_
    refine d_late rfl ?_
    refine w_storeI (i := 0) (l := _) want_none Try.sizeOf83 (by first | omega | rfl | (simp only [List.length_map, List.length_set, List.length_append, List.length_take, List.length_drop, List.length_replicate, List.length_cons, List.length_nil] <;> omega)) rfl rfl rfl rfl rfl hs22 rfl (by first | omega | rfl | (simp only [List.length_map, List.length_set, List.length_append, List.length_take, List.length_drop, List.length_replicate, List.length_cons, List.length_nil] <;> omega)) (fun w23 hs24 => ?_)
    refine w_nil ?_
    refine qn ?_
    refine d_any rfl want_none rfl (fun _ => (y_assign (v := .int _ _) rfl rfl)) ?_
    refine d_nil ?_
    refine q_then (hK19 _ _ ?_)
    refine w_ret ?_
    refine q_blk_ret ?_
    refine q_then_ret ?_
    refine q_ret (l := [.tmp 4, .cell 5 83, .tmp 6]) (vs := [_, _, _]) rfl ⟨⟨rfl, show _ = (.pointer _ : Value) from rfl⟩, ⟨rfl, _, rfl, run_loadI (i := 0) Try.isAgg83 Try.sizeOf83 (by first | omega | rfl | (simp only [List.length_map, List.length_set, List.length_append, List.length_take, List.length_drop, List.length_replicate, List.length_cons, List.length_nil] <;> omega)) hs24 rfl⟩, ⟨rfl, show _ = (.int _ _ : Value) from rfl⟩, trivial⟩ ?_
    first
      | exact .inl ⟨by rw [enter_e1 (by assumption)]; assumption, by rw [enter_e1 (by assumption)]; rfl, hs24.tail.tail⟩
      | exact .inl ⟨by rw [enter_e2 (by assumption) (by omega)]; decide, by rw [enter_e2 (by assumption) (by omega)]; rfl, hs24.tail.tail⟩
      | exact .inl ⟨by rw [enter_e3 (by assumption) (by omega) (by assumption)]; decide, by rw [enter_e3 (by assumption) (by omega) (by assumption)]; rfl, hs24.tail.tail⟩
      | exact .inr ⟨enter_e0 (by assumption) (by omega) (by assumption), m, pb, rfl, drop_mid hs24⟩
  ·
    try simp only [Bool.not_eq_true', Bool.not_eq_false', decide_eq_true_eq, decide_eq_false_iff_not, Int.not_lt, Int.not_le] at h18
    refine w_seq (fun K26 hK25 => ?_)
    refine w_region ?_
    refine w_pure want_none (y_move (v := .slice _ _ _) rfl rfl) rfl ?_
    refine w_pure want_none (y_lenS Try.underlying27 rfl rfl) rfl ?_
    refine w_pure want_none (y_fieldAddr (o := 3) (i := 2) Try.underlying26 rfl Try.sizeOf24 rfl rfl rfl) rfl ?_
    refine w_pure want_none (y_load1 Try.isAgg24 hs13 rfl rfl (ats_own (i := 1) (vs := [_]) rfl rfl)) rfl ?_
    refine w_pure want_none (y_lenS Try.underlying24 rfl rfl) rfl ?_
    refine w_pure want_none (y_neq rfl rfl rfl rfl) rfl ?_
    refine w_pure want_none (y_assign (v := .bool _) rfl rfl) rfl ?_
    refine w_nil ?_
    refine q_then (hK25 _ _ ?_)
    refine w_cond rfl rfl (fun h27 => ?_) (fun h27 => ?_)
    ·
      try simp only [Bool.not_eq_true', Bool.not_eq_false', decide_eq_true_eq, decide_eq_false_iff_not, Int.not_lt, Int.not_le] at h27
      refine w_seq (fun K29 hK28 => ?_)
      refine w_draw [2] [(0, 1), (1, 0), (2, 3), (3, 0)] Try_mo (by kernel_rfl) hs13 (fun w30 hs31 => ?_)
      refine d_take rfl want_none rfl hs31 (fun _ hq => (y_loadI (i := 0) Try.isAgg83 Try.sizeOf83 (by first | omega | rfl | (simp only [List.length_map, List.length_set, List.length_append, List.length_take, List.length_drop, List.length_replicate, List.length_cons, List.length_nil] <;> omega)) hq rfl rfl rfl)) ?_
      refine d_any rfl want_none rfl (fun _ => (y_assign (v := _) rfl rfl)) ?_
      refine d_late rfl ?_
      refine w_storeI (i := 0) (l := _) want_none Try.sizeOf83 (by first | omega | rfl | (simp only [List.length_map, List.length_set, List.length_append, List.length_take, List.length_drop, List.length_replicate, List.length_cons, List.length_nil] <;> omega)) rfl rfl rfl rfl rfl hs31 rfl (by first | omega | rfl | (simp only [List.length_map, List.length_set, List.length_append, List.length_take, List.length_drop, List.length_replicate, List.length_cons, List.length_nil] <;> omega)) (fun w32 hs33 => ?_)
      refine w_nil ?_
      refine qn ?_
      refine d_any rfl want_none rfl (fun _ => (y_assign (v := _) rfl rfl)) ?_
      refine d_nil ?_
      refine q_then (hK28 _ _ ?_)
      refine w_ret ?_
      refine q_blk_ret ?_
      refine q_then_ret ?_
      refine q_ret (l := [.tmp 4, .cell 5 83, .tmp 6]) (vs := [_, _, _]) rfl ⟨⟨rfl, show _ = (.pointer _ : Value) from rfl⟩, ⟨rfl, _, rfl, run_loadI (i := 0) Try.isAgg83 Try.sizeOf83 (by first | omega | rfl | (simp only [List.length_map, List.length_set, List.length_append, List.length_take, List.length_drop, List.length_replicate, List.length_cons, List.length_nil] <;> omega)) hs33 rfl⟩, ⟨rfl, show _ = (.int _ _ : Value) from rfl⟩, trivial⟩ ?_
      first
        | exact .inl ⟨by rw [enter_e1 (by assumption)]; assumption, by rw [enter_e1 (by assumption)]; rfl, hs33.tail.tail⟩
        | exact .inl ⟨by rw [enter_e2 (by assumption) (by omega)]; decide, by rw [enter_e2 (by assumption) (by omega)]; rfl, hs33.tail.tail⟩
        | exact .inl ⟨by rw [enter_e3 (by assumption) (by omega) (by assumption)]; decide, by rw [enter_e3 (by assumption) (by omega) (by assumption)]; rfl, hs33.tail.tail⟩
        | exact .inr ⟨enter_e0 (by assumption) (by omega) (by assumption), m, pb, rfl, drop_mid hs33⟩
    ·
      try simp only [Bool.not_eq_true', Bool.not_eq_false', decide_eq_true_eq, decide_eq_false_iff_not, Int.not_lt, Int.not_le] at h27
      refine w_seq (fun K35 hK34 => ?_)
      refine w_region ?_
      refine w_pure want_none (y_move (v := .slice _ _ _) rfl rfl) rfl ?_
      refine w_call want_none Try.call48 rfl rfl rfl rfl (c48 _ _ _ _ _ (by omega) hl.cons.cons hs13) ?_
      rintro _ w37 ⟨rfl, hs38⟩
      refine w_pure want_none (y_assign (v := .bool _) rfl rfl) rfl ?_
      refine w_nil ?_
      refine q_then (hK34 _ _ ?_)
      refine w_cond rfl rfl (fun h39 => ?_) (fun h39 => ?_)
      ·
        try simp only [Bool.not_eq_true', Bool.not_eq_false', decide_eq_true_eq, decide_eq_false_iff_not, Int.not_lt, Int.not_le] at h39
        refine w_seq (fun K41 hK40 => ?_)
        refine w_draw [2] [(0, 1), (1, 0), (2, 3), (3, 0)] Try_mo (by kernel_rfl) hs38 (fun w42 hs43 => ?_)
        refine d_take rfl want_none rfl hs43 (fun _ hq => (y_loadI (i := 0) Try.isAgg83 Try.sizeOf83 (by first | omega | rfl | (simp only [List.length_map, List.length_set, List.length_append, List.length_take, List.length_drop, List.length_replicate, List.length_cons, List.length_nil] <;> omega)) hq rfl rfl rfl)) ?_
        refine d_any rfl want_none rfl (fun _ => (y_assign (v := _) rfl rfl)) ?_
        refine d_late rfl ?_
        refine w_storeI (i := 0) (l := _) want_none Try.sizeOf83 (by first | omega | rfl | (simp only [List.length_map, List.length_set, List.length_append, List.length_take, List.length_drop, List.length_replicate, List.length_cons, List.length_nil] <;> omega)) rfl rfl rfl rfl rfl hs43 rfl (by first | omega | rfl | (simp only [List.length_map, List.length_set, List.length_append, List.length_take, List.length_drop, List.length_replicate, List.length_cons, List.length_nil] <;> omega)) (fun w44 hs45 => ?_)
        refine w_nil ?_
        refine qn ?_
        refine d_any rfl want_none rfl (fun _ => (y_assign (v := _) rfl rfl)) ?_
        refine d_nil ?_
        refine q_then (hK40 _ _ ?_)
        refine w_ret ?_
        refine q_blk_ret ?_
        refine q_then_ret ?_
        refine q_ret (l := [.tmp 4, .cell 5 83, .tmp 6]) (vs := [_, _, _]) rfl ⟨⟨rfl, show _ = (.pointer _ : Value) from rfl⟩, ⟨rfl, _, rfl, run_loadI (i := 0) Try.isAgg83 Try.sizeOf83 (by first | omega | rfl | (simp only [List.length_map, List.length_set, List.length_append, List.length_take, List.length_drop, List.length_replicate, List.length_cons, List.length_nil] <;> omega)) hs45 rfl⟩, ⟨rfl, show _ = (.int _ _ : Value) from rfl⟩, trivial⟩ ?_
        first
          | exact .inl ⟨by rw [enter_e1 (by assumption)]; assumption, by rw [enter_e1 (by assumption)]; rfl, hs45.tail.tail⟩
          | exact .inl ⟨by rw [enter_e2 (by assumption) (by omega)]; decide, by rw [enter_e2 (by assumption) (by omega)]; rfl, hs45.tail.tail⟩
          | exact .inl ⟨by rw [enter_e3 (by assumption) (by omega) (by assumption)]; decide, by rw [enter_e3 (by assumption) (by omega) (by assumption)]; rfl, hs45.tail.tail⟩
          | exact .inr ⟨enter_e0 (by assumption) (by omega) (by assumption), m, pb, rfl, drop_mid hs45⟩
      ·
        try simp only [Bool.not_eq_true', Bool.not_eq_false', decide_eq_true_eq, decide_eq_false_iff_not, Int.not_lt, Int.not_le] at h39
        refine w_skip ?_
        refine q_blk_normal ?_
        refine q_then (hK14 _ _ ?_)
        refine w_seq (fun K47 hK46 => ?_)
        refine w_region ?_
        refine w_pure want_none (y_sliceA Try.underlying83 Try.sizeOf3 rfl rfl) rfl ?_
        refine w_pure want_none (y_move (v := .slice _ _ _) rfl rfl) rfl ?_
        refine w_copyI (i := 0) want_none Try.underlying27 Try.sizeOf3 rfl rfl rfl rfl hs38 rfl hl.cons.cons (by first | omega | rfl | (simp only [List.length_map, List.length_set, List.length_append, List.length_take, List.length_drop, List.length_replicate, List.length_cons, List.length_nil] <;> omega)) (by first | omega | rfl | (simp only [List.length_map, List.length_set, List.length_append, List.length_take, List.length_drop, List.length_replicate, List.length_cons, List.length_nil] <;> omega)) (fun w48 hs49 => ?_)
        refine w_nil ?_
        refine q_then (hK46 _ _ ?_)
        refine w_seq (fun K51 hK50 => ?_)
        refine w_draw [4] [(0, 1), (2, 1), (1, 2), (3, 0), (4, 3), (5, 0)] Try_mo (by kernel_rfl) hs49 (fun w52 hs53 => ?_)
        refine d_take rfl want_none rfl hs53 (fun _ hq => (y_loadN (vs := [_, _, _, _]) Try.isAgg26 Try.sizeOf26 hq rfl rfl (ats_own (i := 1) (vs := [_, _, _, _]) rfl rfl))) ?_
        refine d_take rfl want_none rfl hs53 (fun _ hq => (y_loadI (i := 0) Try.isAgg83 Try.sizeOf83 (by first | omega | rfl | (simp only [List.length_map, List.length_set, List.length_append, List.length_take, List.length_drop, List.length_replicate, List.length_cons, List.length_nil] <;> omega)) hq rfl rfl rfl)) ?_
        refine d_eff rfl ?_
        refine w_call want_none Try.call58 rfl rfl rfl rfl (c58 p _ _ hs53) ?_
        rintro _ w55 ⟨m, pb, rfl, hs56⟩
        refine w_nil ?_
        refine qn ⟨hs56.tail.tail, ?_⟩
        refine d_any rfl want_none rfl (fun _ => (y_assign (v := .pointer _) rfl rfl)) ?_
        refine d_late rfl ?_
        refine w_storeI (i := 2) (l := _) want_none Try.sizeOf83 (by first | omega | rfl | (simp only [List.length_map, List.length_set, List.length_append, List.length_take, List.length_drop, List.length_replicate, List.length_cons, List.length_nil] <;> omega)) rfl rfl rfl rfl rfl hs56 rfl (by first | omega | rfl | (simp only [List.length_map, List.length_set, List.length_append, List.length_take, List.length_drop, List.length_replicate, List.length_cons, List.length_nil] <;> omega)) (fun w57 hs58 => ?_)
        refine w_nil ?_
        refine qn ?_
        refine d_any rfl want_none rfl (fun _ => (y_assign (v := _) rfl rfl)) ?_
        refine d_nil ?_
        refine q_then (hK50 _ _ ?_)
        refine w_ret ?_
        refine q_ret (l := [.tmp 4, .cell 5 83, .tmp 6]) (vs := [_, _, _]) rfl ⟨⟨rfl, show _ = (.pointer _ : Value) from rfl⟩, ⟨rfl, _, rfl, run_loadI (i := 2) Try.isAgg83 Try.sizeOf83 (by first | omega | rfl | (simp only [List.length_map, List.length_set, List.length_append, List.length_take, List.length_drop, List.length_replicate, List.length_cons, List.length_nil] <;> omega)) hs58 rfl⟩, ⟨rfl, show _ = (.int _ _ : Value) from rfl⟩, trivial⟩ ?_
        first
          | exact .inl ⟨by rw [enter_e1 (by assumption)]; assumption, by rw [enter_e1 (by assumption)]; rfl, hs58.tail.tail.tail.tail⟩
          | exact .inl ⟨by rw [enter_e2 (by assumption) (by omega)]; decide, by rw [enter_e2 (by assumption) (by omega)]; rfl, hs58.tail.tail.tail.tail⟩
          | exact .inl ⟨by rw [enter_e3 (by assumption) (by omega) (by assumption)]; decide, by rw [enter_e3 (by assumption) (by omega) (by assumption)]; rfl, hs58.tail.tail.tail.tail⟩
          | exact .inr ⟨enter_e0 (by assumption) (by omega) (by assumption), m, pb, rfl, drop_mid hs58⟩

end Go.Proofs
