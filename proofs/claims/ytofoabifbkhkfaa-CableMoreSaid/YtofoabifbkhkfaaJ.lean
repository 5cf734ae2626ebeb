/- Walks of this seat, printed by gen.py over the engine: what each function returns, in whatever world. No conditions but those of each contract. -/
import Derived.Test.YtofoabifbkhkfaaI
import Derived.Test.YtofoabifbkhkfaaCSpecEx
set_option linter.unusedVariables false
set_option linter.unusedSimpArgs false
set_option maxRecDepth 20000
namespace Go.Proofs
open Go.Rt
attribute [local irreducible] WL WC Con Yd At Ats Sl Agree DW
theorem Try_J_fb5 (x0 : Int) (x1 : Int) (w : World) : (Instr.build 23 [(0, .int .i64 x0), (1, .int .i64 x1)].toArray).run Try.prog w = .ok (.agg #[.int .i64 x0, .int .i64 x1]) w := by kernel_rfl
theorem Try_J_fb6 (x0 : Int) (x1 : Int) (w : World) : (Instr.buildSlice 31 1 [(0, .agg #[.int .i64 x0, .int .i64 x1])].toArray).run Try.prog w = .ok (.slice (some ⟨w.heap.size, 0, none⟩) 1 1) (w.alloc (Go.Rt.blk 23 [.int .i64 x0, .int .i64 x1])) := by kernel_rfl
theorem Try_info23 : Try.prog.info? 23 = some Try.t23 := by kernel_rfl
theorem all_take_succ {α : Type} {L : List α} {f : α → Bool} {i : Nat} (hi : i < L.length) : (L.take (i + 1)).all f = ((L.take i).all f && f L[i]) := by
  rw [List.take_succ_eq_append_getElem hi, List.all_append]; simp
theorem bbi {a b c d : Bool} {e f : Int} (h1 : a = b) (h2 : c = d) (h3 : e = f) : [Value.bool a, Value.bool c, Value.int .i64 e] = [Value.bool b, Value.bool d, Value.int .i64 f] := by rw [h1, h2, h3]
theorem drop_quay {w0 w : World} {B M1 F : List (Nat × Obj)} {x y z : Nat × Obj} (h : St w0 w (B ++ ([x] ++ (M1 ++ (y :: z :: F))))) : St w0 w (B ++ F) := by
  have e : B ++ ([x] ++ (M1 ++ (y :: z :: F))) = B ++ (([x] ++ (M1 ++ [y, z])) ++ F) := by simp
  rw [e] at h
  exact (h.perm (perm_mid _ _ _)).drop
theorem tup2 {a b c d : Int} (h : a = b) (h2 : c = d) : Value.tuple #[.int .i64 a, .int .i64 c] = .tuple #[.int .i64 b, .int .i64 d] := by rw [h, h2]
theorem c24 {w0 w : World} {F : List (Nat × Obj)} (p : Port) (a : Option Addr) (c : Nat) (hl3 : p.farms.length ≤ 9223372036854775807) (hc : p.farms.length ≤ c) (ha : Sl w0 F a 6 (rows p.farms)) (hnm : ∀ f ∈ p.farms, f.name.size ≤ 9223372036854775807) (al : Option Addr) (cl : Nat) (l : List Int) (hll : l.length ≤ 9223372036854775807) (hl : Sl w0 F al 1 (l.map fun x => [Value.int .i64 x])) (hs : St w0 w F) :
  Con Try.prog 24 [.agg (p.cells a c).toArray, .slice al l.length cl] w fun v w' => v = .tuple #[.int .i64 (vainR p l), .int .i64 (enterErr p l)] ∧ St w0 w' F := by
  refine con_of_wc (n := 22) Try.func24 rfl rfl (Nat.le_of_ble_eq_true rfl) ?_
  refine w_seq (fun K2 hK1 => ?_)
  refine w_region ?_
  refine w_box (v := .agg #[.int _ _, .int _ _, .int _ _, .slice _ _ _]) (cs := [_, _, _, _]) want_none rfl rfl rfl hs (fun b3 w4 hs5 => ?_)
  refine w_pure want_none (y_assign (v := _) rfl rfl) rfl ?_
  refine w_pure want_none (y_assign (v := _) rfl rfl) rfl ?_
  refine w_nil ?_
  refine q_then (hK1 _ _ ?_)
  refine w_seq (fun K7 hK6 => ?_)
  refine w_region ?_
  refine w_pure want_none (y_loadN (vs := [_, _, _, _]) Try.isAgg26 Try.sizeOf26 hs5 rfl rfl (ats_own (i := 0) (vs := [_, _, _, _]) rfl rfl)) rfl ?_
  refine w_pure want_none (y_move (v := .slice _ _ _) rfl rfl) rfl ?_
  refine w_call want_none Try.call53 rfl rfl rfl rfl (c53 p _ _ (by omega) (by omega) ha.cons hnm _ _ _ (by omega) hl.cons hs5) ?_
  rintro _ w9 (⟨hee, rfl, hs10⟩ | ⟨hee, m, pb, rfl, hs10⟩)
  ·
    refine w_pure want_none (y_move (v := .tuple _) rfl rfl) rfl ?_
    refine w_pure want_none (y_extract (v := .pointer _) rfl rfl rfl) rfl ?_
    refine w_pure want_none (y_extract (v := (ia _)) rfl rfl rfl) rfl ?_
    refine w_pure want_none (y_extract (v := .int _ _) rfl rfl rfl) rfl ?_
    refine w_alloc (cs := iv [0, 0, 0]) want_none Try.zeroValue83 rfl hs10 (fun b11 w12 hs13 => ?_)
    refine w_pure want_none (y_assign (v := .pointer _) rfl rfl) rfl ?_
    refine w_storeI (i := 0) (l := _) want_none Try.sizeOf83 (by first | omega | rfl | (simp only [pad_len, List.length_map, List.length_set, List.length_append, List.length_take, List.length_drop, List.length_replicate, List.length_cons, List.length_nil] <;> omega)) rfl rfl rfl rfl rfl hs13 rfl (by first | omega | rfl | (simp only [pad_len, List.length_map, List.length_set, List.length_append, List.length_take, List.length_drop, List.length_replicate, List.length_cons, List.length_nil] <;> omega)) (fun w14 hs15 => ?_)
    refine w_pure want_none (y_assign (v := .int _ _) rfl rfl) rfl ?_
    refine w_nil ?_
    refine q_then (hK6 _ _ ?_)
    refine w_seq (fun K17 hK16 => ?_)
    refine w_seq (fun K19 hK18 => ?_)
    refine w_region ?_
    refine w_pure want_none (y_move (v := .int _ _) rfl rfl) rfl ?_
    refine w_pure want_none (y_neq rfl rfl rfl rfl) rfl ?_
    refine w_nil ?_
    refine q_then (hK18 _ _ ?_)
    refine w_cond rfl rfl (fun h20 => ?_) (fun h20 => ?_)
    ·
      try simp only [Bool.not_eq_true', Bool.not_eq_false', decide_eq_true_eq, decide_eq_false_iff_not, Int.not_lt, Int.not_le] at h20
      refine w_seq (fun K22 hK21 => ?_)
      refine w_region ?_
      refine w_pure want_none (y_move (v := .int _ _) rfl rfl) rfl ?_
      refine w_pure want_none (y_assign (v := _) rfl rfl) rfl ?_
      refine w_pure want_none (y_assign (v := .int _ _) rfl rfl) rfl ?_
      refine w_nil ?_
      refine q_then (hK21 _ _ ?_)
      refine w_ret ?_
      refine q_then_ret ?_
      refine q_ret (l := [.tmp 4, .tmp 5]) (vs := [_, _]) rfl ⟨⟨rfl, show _ = (.int _ _ : Value) from rfl⟩, ⟨rfl, show _ = (.int _ _ : Value) from rfl⟩, trivial⟩ ?_
      first
        | contradiction
        | (refine ⟨tup2 ?_ ?_, hs15.tail.tail⟩ <;> simp only [vainR, hee, if_true, if_false] <;> first | rfl | exact vain_pad (enter_ok hee).2.1 (check_ok (enter_ok hee).1).len)
    ·
      try simp only [Bool.not_eq_true', Bool.not_eq_false', decide_eq_true_eq, decide_eq_false_iff_not, Int.not_lt, Int.not_le] at h20
      all_goals exact absurd (by assumption) hee
  ·
    refine w_pure want_none (y_move (v := .tuple _) rfl rfl) rfl ?_
    refine w_pure want_none (y_extract (v := .pointer _) rfl rfl rfl) rfl ?_
    refine w_pure want_none (y_extract (v := (ia _)) rfl rfl rfl) rfl ?_
    refine w_pure want_none (y_extract (v := .int _ _) rfl rfl rfl) rfl ?_
    refine w_alloc (cs := iv [0, 0, 0]) want_none Try.zeroValue83 rfl hs10 (fun b23 w24 hs25 => ?_)
    refine w_pure want_none (y_assign (v := .pointer _) rfl rfl) rfl ?_
    refine w_storeI (i := 0) (l := _) want_none Try.sizeOf83 (by first | omega | rfl | (simp only [pad_len, List.length_map, List.length_set, List.length_append, List.length_take, List.length_drop, List.length_replicate, List.length_cons, List.length_nil] <;> omega)) rfl rfl rfl rfl rfl hs25 rfl (by first | omega | rfl | (simp only [pad_len, List.length_map, List.length_set, List.length_append, List.length_take, List.length_drop, List.length_replicate, List.length_cons, List.length_nil] <;> omega)) (fun w26 hs27 => ?_)
    refine w_pure want_none (y_assign (v := .int _ _) rfl rfl) rfl ?_
    refine w_nil ?_
    refine q_then (hK6 _ _ ?_)
    refine w_seq (fun K29 hK28 => ?_)
    refine w_seq (fun K31 hK30 => ?_)
    refine w_region ?_
    refine w_pure want_none (y_move (v := .int _ _) rfl rfl) rfl ?_
    refine w_pure want_none (y_neq rfl rfl rfl rfl) rfl ?_
    refine w_nil ?_
    refine q_then (hK30 _ _ ?_)
    refine w_cond rfl rfl (fun h32 => ?_) (fun h32 => ?_)
    ·
      try simp only [Bool.not_eq_true', Bool.not_eq_false', decide_eq_true_eq, decide_eq_false_iff_not, Int.not_lt, Int.not_le] at h32
      all_goals contradiction
    ·
      try simp only [Bool.not_eq_true', Bool.not_eq_false', decide_eq_true_eq, decide_eq_false_iff_not, Int.not_lt, Int.not_le] at h32
      refine w_skip ?_
      refine q_then (hK28 _ _ ?_)
      refine w_seq (fun K34 hK33 => ?_)
      refine w_region ?_
      refine w_pure want_none (y_move (v := .pointer _) rfl rfl) rfl ?_
      refine w_pure want_none (y_loadI (i := 0) Try.isAgg83 Try.sizeOf83 (by first | omega | rfl | (simp only [pad_len, List.length_map, List.length_set, List.length_append, List.length_take, List.length_drop, List.length_replicate, List.length_cons, List.length_nil] <;> omega)) hs27 rfl rfl rfl) rfl ?_
      refine w_call want_none Try.call57 rfl rfl rfl rfl (c57 (X := [_]) (M := [_]) p _ c m pb (ats_own (i := 0) (vs := [_, _, _, _, _]) rfl rfl) ha.cons.cons (check_ok (enter_ok hee).1) (pad l) (pad_len l) (pad_in hee) (memo_new _ _ _) hs27) ?_
      rintro _ w36 ⟨rfl, M1, hM1, hs37⟩
      replace hs37 := (show St _ _ (_ :: M1 ++ (_ :: _ :: F)) from hs37)
      refine w_pure want_none (y_assign (v := .int _ _) rfl rfl) rfl ?_
      refine w_pure want_none (y_assign (v := _) rfl rfl) rfl ?_
      refine w_nil ?_
      refine q_then (hK33 _ _ ?_)
      refine w_ret ?_
      refine q_ret (l := [.tmp 4, .tmp 5]) (vs := [_, _]) rfl ⟨⟨rfl, show _ = (.int _ _ : Value) from rfl⟩, ⟨rfl, show _ = (.int _ _ : Value) from rfl⟩, trivial⟩ ?_
      first
        | contradiction
        | (refine ⟨tup2 ?_ ?_, hs37.tail.drop.tail.tail⟩ <;> simp only [vainR, hee, if_true, if_false] <;> first | rfl | exact vain_pad (enter_ok hee).2.1 (check_ok (enter_ok hee).1).len)

theorem c21 {w0 w : World} {F : List (Nat × Obj)} (p : Port) (a : Option Addr) (c : Nat) (hl3 : p.farms.length ≤ 9223372036854775807) (hc : p.farms.length ≤ c) (ha : Sl w0 F a 6 (rows p.farms)) (hnm : ∀ f ∈ p.farms, f.name.size ≤ 9223372036854775807) (al : Option Addr) (cl : Nat) (l : List Int) (hll : l.length ≤ 9223372036854775807) (hl : Sl w0 F al 1 (l.map fun x => [Value.int .i64 x])) (hs : St w0 w F) :
  Con Try.prog 21 [.agg (p.cells a c).toArray, .slice al l.length cl] w fun v w' => v = .tuple #[.int .i64 (fullR p l), .int .i64 (enterErr p l)] ∧ St w0 w' F := by
  refine con_of_wc (n := 52) Try.func21 rfl rfl (Nat.le_of_ble_eq_true rfl) ?_
  refine w_seq (fun K2 hK1 => ?_)
  refine w_region ?_
  refine w_box (v := .agg #[.int _ _, .int _ _, .int _ _, .slice _ _ _]) (cs := [_, _, _, _]) want_none rfl rfl rfl hs (fun b3 w4 hs5 => ?_)
  refine w_pure want_none (y_assign (v := _) rfl rfl) rfl ?_
  refine w_pure want_none (y_assign (v := _) rfl rfl) rfl ?_
  refine w_nil ?_
  refine q_then (hK1 _ _ ?_)
  refine w_seq (fun K7 hK6 => ?_)
  refine w_region ?_
  refine w_pure want_none (y_loadN (vs := [_, _, _, _]) Try.isAgg26 Try.sizeOf26 hs5 rfl rfl (ats_own (i := 0) (vs := [_, _, _, _]) rfl rfl)) rfl ?_
  refine w_pure want_none (y_move (v := .slice _ _ _) rfl rfl) rfl ?_
  refine w_call want_none Try.call53 rfl rfl rfl rfl (c53 p _ _ (by omega) (by omega) ha.cons hnm _ _ _ (by omega) hl.cons hs5) ?_
  rintro _ w9 (⟨hee, rfl, hs10⟩ | ⟨hee, m, pb, rfl, hs10⟩)
  ·
    refine w_pure want_none (y_move (v := .tuple _) rfl rfl) rfl ?_
    refine w_pure want_none (y_extract (v := .pointer _) rfl rfl rfl) rfl ?_
    refine w_pure want_none (y_extract (v := (ia _)) rfl rfl rfl) rfl ?_
    refine w_pure want_none (y_extract (v := .int _ _) rfl rfl rfl) rfl ?_
    refine w_alloc (cs := iv [0, 0, 0]) want_none Try.zeroValue83 rfl hs10 (fun b11 w12 hs13 => ?_)
    refine w_pure want_none (y_assign (v := .pointer _) rfl rfl) rfl ?_
    refine w_storeI (i := 0) (l := _) want_none Try.sizeOf83 (by first | omega | rfl | (simp only [pad_len, List.length_map, List.length_set, List.length_append, List.length_take, List.length_drop, List.length_replicate, List.length_cons, List.length_nil] <;> omega)) rfl rfl rfl rfl rfl hs13 rfl (by first | omega | rfl | (simp only [pad_len, List.length_map, List.length_set, List.length_append, List.length_take, List.length_drop, List.length_replicate, List.length_cons, List.length_nil] <;> omega)) (fun w14 hs15 => ?_)
    refine w_pure want_none (y_assign (v := .int _ _) rfl rfl) rfl ?_
    refine w_nil ?_
    refine q_then (hK6 _ _ ?_)
    refine w_seq (fun K17 hK16 => ?_)
    refine w_seq (fun K19 hK18 => ?_)
    refine w_region ?_
    refine w_pure want_none (y_move (v := .int _ _) rfl rfl) rfl ?_
    refine w_pure want_none (y_neq rfl rfl rfl rfl) rfl ?_
    refine w_nil ?_
    refine q_then (hK18 _ _ ?_)
    refine w_cond rfl rfl (fun h20 => ?_) (fun h20 => ?_)
    ·
      try simp only [Bool.not_eq_true', Bool.not_eq_false', decide_eq_true_eq, decide_eq_false_iff_not, Int.not_lt, Int.not_le] at h20
      refine w_seq (fun K22 hK21 => ?_)
      refine w_region ?_
      refine w_pure want_none (y_move (v := .int _ _) rfl rfl) rfl ?_
      refine w_pure want_none (y_assign (v := _) rfl rfl) rfl ?_
      refine w_pure want_none (y_assign (v := .int _ _) rfl rfl) rfl ?_
      refine w_nil ?_
      refine q_then (hK21 _ _ ?_)
      refine w_ret ?_
      refine q_then_ret ?_
      refine q_ret (l := [.tmp 4, .tmp 5]) (vs := [_, _]) rfl ⟨⟨rfl, show _ = (.int _ _ : Value) from rfl⟩, ⟨rfl, show _ = (.int _ _ : Value) from rfl⟩, trivial⟩ ?_
      first
        | contradiction
        | (refine ⟨tup2 ?_ ?_, hs15.tail.tail⟩ <;> simp only [fullR, hee, if_true, if_false]; done)
        | (rw [List.take_of_length_le (by omega), ← full_loads] at hs1
           rw [List.take_of_length_le (by omega), ← never_loads] at hs2
           refine ⟨tup2 ?_ ?_, ((show St w0 _ ([_] ++ (M1 ++ (_ :: _ :: F))) from St.cast hz hs15).drop.drop.tail.tail)⟩ <;> simp only [fullR, hee, if_true, if_false]
           rw [← does_pad (enter_ok hee).2.1 hok.len]
           unfold does
           rw [← hs1, ← hs2]
           simp [h20])
    ·
      try simp only [Bool.not_eq_true', Bool.not_eq_false', decide_eq_true_eq, decide_eq_false_iff_not, Int.not_lt, Int.not_le] at h20
      all_goals exact absurd (by assumption) hee
  ·
    refine w_pure want_none (y_move (v := .tuple _) rfl rfl) rfl ?_
    refine w_pure want_none (y_extract (v := .pointer _) rfl rfl rfl) rfl ?_
    refine w_pure want_none (y_extract (v := (ia _)) rfl rfl rfl) rfl ?_
    refine w_pure want_none (y_extract (v := .int _ _) rfl rfl rfl) rfl ?_
    refine w_alloc (cs := iv [0, 0, 0]) want_none Try.zeroValue83 rfl hs10 (fun b23 w24 hs25 => ?_)
    refine w_pure want_none (y_assign (v := .pointer _) rfl rfl) rfl ?_
    refine w_storeI (i := 0) (l := _) want_none Try.sizeOf83 (by first | omega | rfl | (simp only [pad_len, List.length_map, List.length_set, List.length_append, List.length_take, List.length_drop, List.length_replicate, List.length_cons, List.length_nil] <;> omega)) rfl rfl rfl rfl rfl hs25 rfl (by first | omega | rfl | (simp only [pad_len, List.length_map, List.length_set, List.length_append, List.length_take, List.length_drop, List.length_replicate, List.length_cons, List.length_nil] <;> omega)) (fun w26 hs27 => ?_)
    refine w_pure want_none (y_assign (v := .int _ _) rfl rfl) rfl ?_
    refine w_nil ?_
    refine q_then (hK6 _ _ ?_)
    refine w_seq (fun K29 hK28 => ?_)
    refine w_seq (fun K31 hK30 => ?_)
    refine w_region ?_
    refine w_pure want_none (y_move (v := .int _ _) rfl rfl) rfl ?_
    refine w_pure want_none (y_neq rfl rfl rfl rfl) rfl ?_
    refine w_nil ?_
    refine q_then (hK30 _ _ ?_)
    refine w_cond rfl rfl (fun h32 => ?_) (fun h32 => ?_)
    ·
      try simp only [Bool.not_eq_true', Bool.not_eq_false', decide_eq_true_eq, decide_eq_false_iff_not, Int.not_lt, Int.not_le] at h32
      all_goals contradiction
    ·
      try simp only [Bool.not_eq_true', Bool.not_eq_false', decide_eq_true_eq, decide_eq_false_iff_not, Int.not_lt, Int.not_le] at h32
      refine w_skip ?_
      refine q_then (hK28 _ _ ?_)
      refine w_seq (fun K34 hK33 => ?_)
      refine w_region ?_
      refine w_pure want_none (y_assign (v := _) rfl rfl) rfl ?_
      refine w_pure want_none (y_assign (v := _) rfl rfl) rfl ?_
      refine w_nil ?_
      refine q_then (hK33 _ _ ?_)
      refine w_seq (fun K36 hK35 => ?_)
      refine w_seq (fun K38 hK37 => ?_)
      refine w_region ?_
      refine w_pure want_none (y_move (v := .pointer _) rfl rfl) rfl ?_
      refine w_pure want_none (y_loadI (i := 0) Try.isAgg83 Try.sizeOf83 (by first | omega | rfl | (simp only [pad_len, List.length_map, List.length_set, List.length_append, List.length_take, List.length_drop, List.length_replicate, List.length_cons, List.length_nil] <;> omega)) hs27 rfl rfl rfl) rfl ?_
      refine w_call want_none Try.call54 rfl rfl rfl rfl (loads_con2 (X := [_]) (M := [_]) p _ c m pb (ats_own (i := 0) (vs := [_, _, _, _, _]) rfl rfl) ha.cons.cons (check_ok (enter_ok hee).1) (pad l) (pad_len l) (pad_in hee) (memo_new _ _ _) hs27) ?_
      rintro _ w40 ⟨Z, M1, al2, cl2, rfl, hM1, hz, hsl, hs41⟩
      have hb2 : Ats w0 Z b3 0 (p.cells a c) := (ats_own (w0 := w0) (L := (pb, blk 119 [.int .i64 p.hold, .int .i64 p.clo, .int .i64 p.chi, .slice a p.farms.length c, .map (some m)]) :: (b3, blk 26 (p.cells a c)) :: F) (i := 1) (vs := p.cells a c) rfl rfl).mono fun w h => (show St w0 w ([_] ++ (M1 ++ (_ :: _ :: F))) from St.cast hz h).drop.drop
      have hlo := loads_len p (pad l)
      have hok := check_ok (enter_ok hee).1
      have hcome := hok.come
      refine w_pure want_none (y_lenS Try.underlying86 rfl rfl) rfl ?_
      refine w_pure want_none (y_move (v := _) rfl rfl) rfl ?_
      refine w_nil ?_
      refine q_then (hK37 _ _ ?_)
      refine w_block ?_
      refine w_loop [9, 10, 12, 27, 28, 29, 30, 31, 32, 33, 34, 35, 36, 37, 38, 39, 40, 41, 42, 43, 44, 45, 46, 47] [9, 10, 27] (fun k vs w => ∃ (i : Nat) (s1 s2 : Bool), vs = [.bool s1, .bool s2, .int .i64 i] ∧ s1 = ((loads p (pad l)).take i).all (fun x => decide (p.hold ≤ x.least)) ∧ s2 = ((loads p (pad l)).take i).all (fun x => decide (x.most < p.hold)) ∧ i ≤ (loads p (pad l)).length ∧ k = (loads p (pad l)).length - i ∧ St w0 w Z) ((loads p (pad l)).length) ?_ ?_
      ·
        exact ⟨0, true, true, rfl, rfl, rfl, by omega, by omega, hs41⟩
      ·
        intro k vs μ w44 hI K43 hN42
        obtain ⟨i, s1, s2, rfl, hs1, hs2, hia, rfl, hs⟩ := hI
        refine w_seq (fun K46 hK45 => ?_)
        refine w_region ?_
        refine w_pure want_none (y_lss rfl rfl rfl rfl) rfl ?_
        refine w_nil ?_
        refine q_then (hK45 _ _ ?_)
        refine w_seq (fun K48 hK47 => ?_)
        refine w_cond rfl rfl (fun h49 => ?_) (fun h49 => ?_)
        ·
          try simp only [Bool.not_eq_true', Bool.not_eq_false', decide_eq_true_eq, decide_eq_false_iff_not, Int.not_lt, Int.not_le] at h49
          refine w_skip ?_
          refine q_then (hK47 _ _ ?_)
          refine w_seq (fun K51 hK50 => ?_)
          refine w_block ?_
          refine w_seq (fun K53 hK52 => ?_)
          have hx2 : i < (loads p (pad l)).length := by omega
          obtain ⟨bx, ox, rfl, hx⟩ := sl_load hsl hx2
          refine w_region ?_
          refine w_pure want_none (y_indexS Try.underlying86 Try.sizeOf89 rfl rfl rfl rfl (i := _) rfl (by omega)) rfl ?_
          refine w_pure want_none (y_loadN (vs := [_, _, _]) Try.isAgg89 Try.sizeOf89 hs rfl rfl hx) rfl ?_
          refine w_alloc (cs := [_, _, _]) want_none Try.zeroValue89 rfl hs (fun b54 w55 hs56 => ?_)
          refine w_store (i := 0) (v := .agg #[.int _ _, .int _ _, .int _ _]) (vs := [_, _, _]) want_none Try.sizeOf89 rfl rfl rfl rfl rfl (by simp [Value.oneCell']) hs56 rfl (Nat.le_of_ble_eq_true rfl) (fun w57 hs58 => ?_)
          refine w_nil ?_
          refine q_then (hK52 _ _ ?_)
          refine w_seq (fun K60 hK59 => ?_)
          refine w_region ?_
          refine w_pure want_none (y_move (v := .bool _) rfl rfl) rfl ?_
          refine w_pure want_none (y_move (v := .bool _) rfl rfl) rfl ?_
          refine w_split (fun h61 => ?_) (fun h61 => ?_)
          ·
            try simp only [Bool.not_eq_true', Bool.not_eq_false', decide_eq_true_eq, decide_eq_false_iff_not, Int.not_lt, Int.not_le] at h61
            refine w_pure (want_yes rfl rfl rfl) (y_fieldAddr (o := 0) (i := 0) Try.underlying89 rfl Try.sizeOf3 rfl rfl rfl) rfl ?_
            refine w_pure (want_yes rfl rfl rfl) (y_load1 Try.isAgg3 hs58 rfl rfl (ats_own (i := 0) (vs := [_]) rfl rfl)) rfl ?_
            refine w_pure (want_yes rfl rfl rfl) (y_fieldAddr (o := 0) (i := 0) Try.underlying26 rfl Try.sizeOf3 rfl rfl rfl) rfl ?_
            refine w_pure (want_yes rfl rfl rfl) (y_load1 Try.isAgg3 hs58.tail rfl rfl (show Ats _ _ _ _ [_] from Ats.part hb2 0 1)) rfl ?_
            refine w_pure (want_yes rfl rfl rfl) (y_geq rfl rfl rfl rfl) rfl ?_
            refine w_pure want_none (y_pickT (v := .bool _) rfl rfl rfl rfl) rfl ?_
            refine w_pure want_none (y_assign (v := .bool _) rfl rfl) rfl ?_
            refine w_nil ?_
            refine q_then (hK59 _ _ ?_)
            refine w_region ?_
            refine w_pure want_none (y_move (v := .bool _) rfl rfl) rfl ?_
            refine w_pure want_none (y_move (v := .bool _) rfl rfl) rfl ?_
            refine w_split (fun h62 => ?_) (fun h62 => ?_)
            ·
              try simp only [Bool.not_eq_true', Bool.not_eq_false', decide_eq_true_eq, decide_eq_false_iff_not, Int.not_lt, Int.not_le] at h62
              refine w_pure (want_yes rfl rfl rfl) (y_fieldAddr (o := 1) (i := 1) Try.underlying89 rfl Try.sizeOf3 rfl rfl rfl) rfl ?_
              refine w_pure (want_yes rfl rfl rfl) (y_load1 Try.isAgg3 hs58 rfl rfl (ats_own (i := 0) (vs := [_]) rfl rfl)) rfl ?_
              refine w_pure (want_yes rfl rfl rfl) (y_fieldAddr (o := 0) (i := 0) Try.underlying26 rfl Try.sizeOf3 rfl rfl rfl) rfl ?_
              refine w_pure (want_yes rfl rfl rfl) (y_load1 Try.isAgg3 hs58.tail rfl rfl (show Ats _ _ _ _ [_] from Ats.part hb2 0 1)) rfl ?_
              refine w_pure (want_yes rfl rfl rfl) (y_lss rfl rfl rfl rfl) rfl ?_
              refine w_pure want_none (y_pickT (v := .bool _) rfl rfl rfl rfl) rfl ?_
              refine w_pure want_none (y_assign (v := .bool _) rfl rfl) rfl ?_
              refine w_nil ?_
              refine q_blk_normal ?_
              refine q_then (hK50 _ _ ?_)
              refine w_region ?_
              refine w_pure want_none (y_add rfl rfl rfl rfl (by omega) (by omega)) rfl ?_
              refine w_pure want_none (y_move (v := .int _ _) rfl rfl) rfl ?_
              refine w_nil ?_
              refine q_then (hN42 _ _ (Nx.intro ((loads p (pad l)).length - (i + 1)) (by omega) (by repeat (first | exact agree_mix | refine agree_upd rfl ?_ | refine agree_updL rfl ?_ _ | refine agree_mixin rfl ?_)) ?_))
              exact ⟨i + 1, _, _, rfl, (by rw [all_take_succ hx2, ← hs1]; simp [h32, h49, h61, h62]), (by rw [all_take_succ hx2, ← hs2]; simp [h32, h49, h61, h62]), by omega, rfl, hs58.tail⟩
            ·
              try simp only [Bool.not_eq_true', Bool.not_eq_false', decide_eq_true_eq, decide_eq_false_iff_not, Int.not_lt, Int.not_le] at h62
              refine w_skipop rfl rfl rfl ?_
              refine w_skipop rfl rfl rfl ?_
              refine w_skipop rfl rfl rfl ?_
              refine w_skipop rfl rfl rfl ?_
              refine w_skipop rfl rfl rfl ?_
              refine w_pure want_none (y_pickF (v := _) rfl rfl rfl rfl) rfl ?_
              refine w_pure want_none (y_assign (v := .bool _) rfl rfl) rfl ?_
              refine w_nil ?_
              refine q_blk_normal ?_
              refine q_then (hK50 _ _ ?_)
              refine w_region ?_
              refine w_pure want_none (y_add rfl rfl rfl rfl (by omega) (by omega)) rfl ?_
              refine w_pure want_none (y_move (v := .int _ _) rfl rfl) rfl ?_
              refine w_nil ?_
              refine q_then (hN42 _ _ (Nx.intro ((loads p (pad l)).length - (i + 1)) (by omega) (by repeat (first | exact agree_mix | refine agree_upd rfl ?_ | refine agree_updL rfl ?_ _ | refine agree_mixin rfl ?_)) ?_))
              exact ⟨i + 1, _, _, rfl, (by rw [all_take_succ hx2, ← hs1]; simp [h32, h49, h61, h62]), (by rw [all_take_succ hx2, ← hs2]; simp [h32, h49, h61, h62]), by omega, rfl, hs58.tail⟩
          ·
            try simp only [Bool.not_eq_true', Bool.not_eq_false', decide_eq_true_eq, decide_eq_false_iff_not, Int.not_lt, Int.not_le] at h61
            refine w_skipop rfl rfl rfl ?_
            refine w_skipop rfl rfl rfl ?_
            refine w_skipop rfl rfl rfl ?_
            refine w_skipop rfl rfl rfl ?_
            refine w_skipop rfl rfl rfl ?_
            refine w_pure want_none (y_pickF (v := _) rfl rfl rfl rfl) rfl ?_
            refine w_pure want_none (y_assign (v := .bool _) rfl rfl) rfl ?_
            refine w_nil ?_
            refine q_then (hK59 _ _ ?_)
            refine w_region ?_
            refine w_pure want_none (y_move (v := .bool _) rfl rfl) rfl ?_
            refine w_pure want_none (y_move (v := .bool _) rfl rfl) rfl ?_
            refine w_split (fun h63 => ?_) (fun h63 => ?_)
            ·
              try simp only [Bool.not_eq_true', Bool.not_eq_false', decide_eq_true_eq, decide_eq_false_iff_not, Int.not_lt, Int.not_le] at h63
              refine w_pure (want_yes rfl rfl rfl) (y_fieldAddr (o := 1) (i := 1) Try.underlying89 rfl Try.sizeOf3 rfl rfl rfl) rfl ?_
              refine w_pure (want_yes rfl rfl rfl) (y_load1 Try.isAgg3 hs58 rfl rfl (ats_own (i := 0) (vs := [_]) rfl rfl)) rfl ?_
              refine w_pure (want_yes rfl rfl rfl) (y_fieldAddr (o := 0) (i := 0) Try.underlying26 rfl Try.sizeOf3 rfl rfl rfl) rfl ?_
              refine w_pure (want_yes rfl rfl rfl) (y_load1 Try.isAgg3 hs58.tail rfl rfl (show Ats _ _ _ _ [_] from Ats.part hb2 0 1)) rfl ?_
              refine w_pure (want_yes rfl rfl rfl) (y_lss rfl rfl rfl rfl) rfl ?_
              refine w_pure want_none (y_pickT (v := .bool _) rfl rfl rfl rfl) rfl ?_
              refine w_pure want_none (y_assign (v := .bool _) rfl rfl) rfl ?_
              refine w_nil ?_
              refine q_blk_normal ?_
              refine q_then (hK50 _ _ ?_)
              refine w_region ?_
              refine w_pure want_none (y_add rfl rfl rfl rfl (by omega) (by omega)) rfl ?_
              refine w_pure want_none (y_move (v := .int _ _) rfl rfl) rfl ?_
              refine w_nil ?_
              refine q_then (hN42 _ _ (Nx.intro ((loads p (pad l)).length - (i + 1)) (by omega) (by repeat (first | exact agree_mix | refine agree_upd rfl ?_ | refine agree_updL rfl ?_ _ | refine agree_mixin rfl ?_)) ?_))
              exact ⟨i + 1, _, _, rfl, (by rw [all_take_succ hx2, ← hs1]; simp [h32, h49, h61, h63]), (by rw [all_take_succ hx2, ← hs2]; simp [h32, h49, h61, h63]), by omega, rfl, hs58.tail⟩
            ·
              try simp only [Bool.not_eq_true', Bool.not_eq_false', decide_eq_true_eq, decide_eq_false_iff_not, Int.not_lt, Int.not_le] at h63
              refine w_skipop rfl rfl rfl ?_
              refine w_skipop rfl rfl rfl ?_
              refine w_skipop rfl rfl rfl ?_
              refine w_skipop rfl rfl rfl ?_
              refine w_skipop rfl rfl rfl ?_
              refine w_pure want_none (y_pickF (v := _) rfl rfl rfl rfl) rfl ?_
              refine w_pure want_none (y_assign (v := .bool _) rfl rfl) rfl ?_
              refine w_nil ?_
              refine q_blk_normal ?_
              refine q_then (hK50 _ _ ?_)
              refine w_region ?_
              refine w_pure want_none (y_add rfl rfl rfl rfl (by omega) (by omega)) rfl ?_
              refine w_pure want_none (y_move (v := .int _ _) rfl rfl) rfl ?_
              refine w_nil ?_
              refine q_then (hN42 _ _ (Nx.intro ((loads p (pad l)).length - (i + 1)) (by omega) (by repeat (first | exact agree_mix | refine agree_upd rfl ?_ | refine agree_updL rfl ?_ _ | refine agree_mixin rfl ?_)) ?_))
              exact ⟨i + 1, _, _, rfl, (by rw [all_take_succ hx2, ← hs1]; simp [h32, h49, h61, h63]), (by rw [all_take_succ hx2, ← hs2]; simp [h32, h49, h61, h63]), by omega, rfl, hs58.tail⟩
        ·
          try simp only [Bool.not_eq_true', Bool.not_eq_false', decide_eq_true_eq, decide_eq_false_iff_not, Int.not_lt, Int.not_le] at h49
          refine w_exit ?_
          refine q_then_exit ?_
          refine q_then_exit ?_
          refine q_blk_this ?_
          refine q_then (hK35 _ _ ?_)
          refine w_seq (fun K65 hK64 => ?_)
          refine w_block ?_
          refine w_seq (fun K67 hK66 => ?_)
          refine w_region ?_
          refine w_pure want_none (y_move (v := .bool _) rfl rfl) rfl ?_
          refine w_pure want_none (y_assign (v := .bool _) rfl rfl) rfl ?_
          refine w_nil ?_
          refine q_then (hK66 _ _ ?_)
          refine w_cond rfl rfl (fun h68 => ?_) (fun h68 => ?_)
          ·
            try simp only [Bool.not_eq_true', Bool.not_eq_false', decide_eq_true_eq, decide_eq_false_iff_not, Int.not_lt, Int.not_le] at h68
            refine w_seq (fun K70 hK69 => ?_)
            refine w_region ?_
            refine w_pure want_none (y_assign (v := _) rfl rfl) rfl ?_
            refine w_pure want_none (y_assign (v := _) rfl rfl) rfl ?_
            refine w_nil ?_
            refine q_then (hK69 _ _ ?_)
            refine w_ret ?_
            refine q_blk_ret ?_
            refine q_then_ret ?_
            refine q_ret (l := [.tmp 4, .tmp 5]) (vs := [_, _]) rfl ⟨⟨rfl, show _ = (.int _ _ : Value) from rfl⟩, ⟨rfl, show _ = (.int _ _ : Value) from rfl⟩, trivial⟩ ?_
            first
              | contradiction
              | (refine ⟨tup2 ?_ ?_, hs⟩ <;> simp only [fullR, hee, if_true, if_false]; done)
              | (rw [List.take_of_length_le (by omega), ← full_loads] at hs1
                 rw [List.take_of_length_le (by omega), ← never_loads] at hs2
                 refine ⟨tup2 ?_ ?_, ((show St w0 _ ([_] ++ (M1 ++ (_ :: _ :: F))) from St.cast hz hs).drop.drop.tail.tail)⟩ <;> simp only [fullR, hee, if_true, if_false]
                 rw [← does_pad (enter_ok hee).2.1 hok.len]
                 unfold does
                 rw [← hs1, ← hs2]
                 simp [h32, h49, h68])
          ·
            try simp only [Bool.not_eq_true', Bool.not_eq_false', decide_eq_true_eq, decide_eq_false_iff_not, Int.not_lt, Int.not_le] at h68
            refine w_seq (fun K72 hK71 => ?_)
            refine w_region ?_
            refine w_pure want_none (y_move (v := .bool _) rfl rfl) rfl ?_
            refine w_pure want_none (y_assign (v := .bool _) rfl rfl) rfl ?_
            refine w_nil ?_
            refine q_then (hK71 _ _ ?_)
            refine w_cond rfl rfl (fun h73 => ?_) (fun h73 => ?_)
            ·
              try simp only [Bool.not_eq_true', Bool.not_eq_false', decide_eq_true_eq, decide_eq_false_iff_not, Int.not_lt, Int.not_le] at h73
              refine w_seq (fun K75 hK74 => ?_)
              refine w_region ?_
              refine w_pure want_none (y_assign (v := _) rfl rfl) rfl ?_
              refine w_pure want_none (y_assign (v := _) rfl rfl) rfl ?_
              refine w_nil ?_
              refine q_then (hK74 _ _ ?_)
              refine w_ret ?_
              refine q_blk_ret ?_
              refine q_then_ret ?_
              refine q_ret (l := [.tmp 4, .tmp 5]) (vs := [_, _]) rfl ⟨⟨rfl, show _ = (.int _ _ : Value) from rfl⟩, ⟨rfl, show _ = (.int _ _ : Value) from rfl⟩, trivial⟩ ?_
              first
                | contradiction
                | (refine ⟨tup2 ?_ ?_, hs⟩ <;> simp only [fullR, hee, if_true, if_false]; done)
                | (rw [List.take_of_length_le (by omega), ← full_loads] at hs1
                   rw [List.take_of_length_le (by omega), ← never_loads] at hs2
                   refine ⟨tup2 ?_ ?_, ((show St w0 _ ([_] ++ (M1 ++ (_ :: _ :: F))) from St.cast hz hs).drop.drop.tail.tail)⟩ <;> simp only [fullR, hee, if_true, if_false]
                   rw [← does_pad (enter_ok hee).2.1 hok.len]
                   unfold does
                   rw [← hs1, ← hs2]
                   simp [h32, h49, h68, h73])
            ·
              try simp only [Bool.not_eq_true', Bool.not_eq_false', decide_eq_true_eq, decide_eq_false_iff_not, Int.not_lt, Int.not_le] at h73
              refine w_skip ?_
              refine q_blk_normal ?_
              refine q_then (hK64 _ _ ?_)
              refine w_seq (fun K77 hK76 => ?_)
              refine w_region ?_
              refine w_pure want_none (y_assign (v := _) rfl rfl) rfl ?_
              refine w_pure want_none (y_assign (v := _) rfl rfl) rfl ?_
              refine w_nil ?_
              refine q_then (hK76 _ _ ?_)
              refine w_ret ?_
              refine q_ret (l := [.tmp 4, .tmp 5]) (vs := [_, _]) rfl ⟨⟨rfl, show _ = (.int _ _ : Value) from rfl⟩, ⟨rfl, show _ = (.int _ _ : Value) from rfl⟩, trivial⟩ ?_
              first
                | contradiction
                | (refine ⟨tup2 ?_ ?_, hs⟩ <;> simp only [fullR, hee, if_true, if_false]; done)
                | (rw [List.take_of_length_le (by omega), ← full_loads] at hs1
                   rw [List.take_of_length_le (by omega), ← never_loads] at hs2
                   refine ⟨tup2 ?_ ?_, ((show St w0 _ ([_] ++ (M1 ++ (_ :: _ :: F))) from St.cast hz hs).drop.drop.tail.tail)⟩ <;> simp only [fullR, hee, if_true, if_false]
                   rw [← does_pad (enter_ok hee).2.1 hok.len]
                   unfold does
                   rw [← hs1, ← hs2]
                   simp [h32, h49, h68, h73])

abbrev qcells (l : List Load) : List (List Value) := l.map fun x => [Value.int .i64 x.least, .int .i64 x.most]
theorem qcells_succ {l : List Load} {i : Nat} (hi : i < l.length) : (qcells (l.take i)).flatten ++ [[Value.int .i64 l[i].least, .int .i64 l[i].most]].flatten = (qcells (l.take (i + 1))).flatten := by
  rw [List.take_succ_eq_append_getElem hi]; simp only [qcells, List.map_append, List.map_cons, List.map_nil, List.flatten_append]
theorem q_none {p : Port} {l : List Int} (h : ¬ enterErr p l = 0) : quayR p l = [] := by unfold quayR; rw [if_neg h]
theorem q_some {p : Port} {l : List Int} (h : enterErr p l = 0) : qcells (loads p (pad l)) = sprow (quayR p l) := by
  unfold quayR; rw [if_pos h, loads_pad (enter_ok h).2.1 (check_ok (enter_ok h).1).len]; simp [qcells, quay]
theorem c18 {w0 w : World} {F : List (Nat × Obj)} (p : Port) (a : Option Addr) (c : Nat) (hl3 : p.farms.length ≤ 9223372036854775807) (hc : p.farms.length ≤ c) (ha : Sl w0 F a 6 (rows p.farms)) (hnm : ∀ f ∈ p.farms, f.name.size ≤ 9223372036854775807) (al : Option Addr) (cl : Nat) (l : List Int) (hll : l.length ≤ 9223372036854775807) (hl : Sl w0 F al 1 (l.map fun x => [Value.int .i64 x])) (hs : St w0 w F) :
  Con Try.prog 18 [.agg (p.cells a c).toArray, .slice al l.length cl] w fun v w' => ∃ B aq cq, v = .tuple #[.slice aq (quayR p l).length cq, .int .i64 (enterErr p l)] ∧ Sl w0 (B ++ F) aq 2 (sprow (quayR p l)) ∧ St w0 w' (B ++ F) := by
  refine con_of_wc (n := 38) Try.func18 rfl rfl (Nat.le_of_ble_eq_true rfl) ?_
  refine w_seq (fun K2 hK1 => ?_)
  refine w_region ?_
  refine w_box (v := .agg #[.int _ _, .int _ _, .int _ _, .slice _ _ _]) (cs := [_, _, _, _]) want_none rfl rfl rfl hs (fun b3 w4 hs5 => ?_)
  refine w_pure want_none (y_assign (v := _) rfl rfl) rfl ?_
  refine w_pure want_none (y_assign (v := _) rfl rfl) rfl ?_
  refine w_nil ?_
  refine q_then (hK1 _ _ ?_)
  refine w_seq (fun K7 hK6 => ?_)
  refine w_region ?_
  refine w_pure want_none (y_loadN (vs := [_, _, _, _]) Try.isAgg26 Try.sizeOf26 hs5 rfl rfl (ats_own (i := 0) (vs := [_, _, _, _]) rfl rfl)) rfl ?_
  refine w_pure want_none (y_move (v := .slice _ _ _) rfl rfl) rfl ?_
  refine w_call want_none Try.call53 rfl rfl rfl rfl (c53 p _ _ (by omega) (by omega) ha.cons hnm _ _ _ (by omega) hl.cons hs5) ?_
  rintro _ w9 (⟨hee, rfl, hs10⟩ | ⟨hee, m, pb, rfl, hs10⟩)
  ·
    refine w_pure want_none (y_move (v := .tuple _) rfl rfl) rfl ?_
    refine w_pure want_none (y_extract (v := .pointer _) rfl rfl rfl) rfl ?_
    refine w_pure want_none (y_extract (v := (ia _)) rfl rfl rfl) rfl ?_
    refine w_pure want_none (y_extract (v := .int _ _) rfl rfl rfl) rfl ?_
    refine w_alloc (cs := iv [0, 0, 0]) want_none Try.zeroValue83 rfl hs10 (fun b11 w12 hs13 => ?_)
    refine w_pure want_none (y_assign (v := .pointer _) rfl rfl) rfl ?_
    refine w_storeI (i := 0) (l := _) want_none Try.sizeOf83 (by first | omega | rfl | (simp only [pad_len, List.length_map, List.length_set, List.length_append, List.length_take, List.length_drop, List.length_replicate, List.length_cons, List.length_nil] <;> omega)) rfl rfl rfl rfl rfl hs13 rfl (by first | omega | rfl | (simp only [pad_len, List.length_map, List.length_set, List.length_append, List.length_take, List.length_drop, List.length_replicate, List.length_cons, List.length_nil] <;> omega)) (fun w14 hs15 => ?_)
    refine w_pure want_none (y_assign (v := .int _ _) rfl rfl) rfl ?_
    refine w_nil ?_
    refine q_then (hK6 _ _ ?_)
    refine w_seq (fun K17 hK16 => ?_)
    refine w_seq (fun K19 hK18 => ?_)
    refine w_region ?_
    refine w_pure want_none (y_move (v := .int _ _) rfl rfl) rfl ?_
    refine w_pure want_none (y_neq rfl rfl rfl rfl) rfl ?_
    refine w_nil ?_
    refine q_then (hK18 _ _ ?_)
    refine w_cond rfl rfl (fun h20 => ?_) (fun h20 => ?_)
    ·
      try simp only [Bool.not_eq_true', Bool.not_eq_false', decide_eq_true_eq, decide_eq_false_iff_not, Int.not_lt, Int.not_le] at h20
      refine w_seq (fun K22 hK21 => ?_)
      refine w_region ?_
      refine w_pure want_none (y_move (v := .int _ _) rfl rfl) rfl ?_
      refine w_pure want_none (y_assign (v := _) rfl rfl) rfl ?_
      refine w_pure want_none (y_assign (v := .int _ _) rfl rfl) rfl ?_
      refine w_nil ?_
      refine q_then (hK21 _ _ ?_)
      refine w_ret ?_
      refine q_then_ret ?_
      refine q_ret (l := [.tmp 4, .tmp 5]) (vs := [_, _]) rfl ⟨⟨rfl, show _ = (.slice _ _ _ : Value) from rfl⟩, ⟨rfl, show _ = (.int _ _ : Value) from rfl⟩, trivial⟩ ?_
      first
        | contradiction
        | (refine ⟨[], none, 0, ?_, ?_, hs15.tail.tail⟩ <;> rw [q_none hee] <;> first | rfl | exact Sl.nil _ _)
        | (obtain ⟨aw, cw, rfl, hsw⟩ := hown.sl (w0 := w0) (rows := qcells (loads p (pad l))) (by intro row hr; obtain ⟨x, _, rfl⟩ := List.mem_map.1 hr; rfl) (by rw [List.length_map]; omega) (by rw [List.take_of_length_le (by omega)]) F
           rw [hee]
           rw [q_some hee] at hsw
           rw [show (qcells (loads p (pad l))).length = (quayR p l).length from by rw [q_some hee, List.length_map]]
           exact ⟨B, aw, cw, rfl, hsw, drop_quay (St.cast (congrArg (B ++ ·) hz) hs15)⟩)
    ·
      try simp only [Bool.not_eq_true', Bool.not_eq_false', decide_eq_true_eq, decide_eq_false_iff_not, Int.not_lt, Int.not_le] at h20
      all_goals exact absurd (by assumption) hee
  ·
    refine w_pure want_none (y_move (v := .tuple _) rfl rfl) rfl ?_
    refine w_pure want_none (y_extract (v := .pointer _) rfl rfl rfl) rfl ?_
    refine w_pure want_none (y_extract (v := (ia _)) rfl rfl rfl) rfl ?_
    refine w_pure want_none (y_extract (v := .int _ _) rfl rfl rfl) rfl ?_
    refine w_alloc (cs := iv [0, 0, 0]) want_none Try.zeroValue83 rfl hs10 (fun b23 w24 hs25 => ?_)
    refine w_pure want_none (y_assign (v := .pointer _) rfl rfl) rfl ?_
    refine w_storeI (i := 0) (l := _) want_none Try.sizeOf83 (by first | omega | rfl | (simp only [pad_len, List.length_map, List.length_set, List.length_append, List.length_take, List.length_drop, List.length_replicate, List.length_cons, List.length_nil] <;> omega)) rfl rfl rfl rfl rfl hs25 rfl (by first | omega | rfl | (simp only [pad_len, List.length_map, List.length_set, List.length_append, List.length_take, List.length_drop, List.length_replicate, List.length_cons, List.length_nil] <;> omega)) (fun w26 hs27 => ?_)
    refine w_pure want_none (y_assign (v := .int _ _) rfl rfl) rfl ?_
    refine w_nil ?_
    refine q_then (hK6 _ _ ?_)
    refine w_seq (fun K29 hK28 => ?_)
    refine w_seq (fun K31 hK30 => ?_)
    refine w_region ?_
    refine w_pure want_none (y_move (v := .int _ _) rfl rfl) rfl ?_
    refine w_pure want_none (y_neq rfl rfl rfl rfl) rfl ?_
    refine w_nil ?_
    refine q_then (hK30 _ _ ?_)
    refine w_cond rfl rfl (fun h32 => ?_) (fun h32 => ?_)
    ·
      try simp only [Bool.not_eq_true', Bool.not_eq_false', decide_eq_true_eq, decide_eq_false_iff_not, Int.not_lt, Int.not_le] at h32
      all_goals contradiction
    ·
      try simp only [Bool.not_eq_true', Bool.not_eq_false', decide_eq_true_eq, decide_eq_false_iff_not, Int.not_lt, Int.not_le] at h32
      refine w_skip ?_
      refine q_then (hK28 _ _ ?_)
      refine w_seq (fun K34 hK33 => ?_)
      refine w_seq (fun K36 hK35 => ?_)
      refine w_region ?_
      refine w_pure want_none (y_move (v := .pointer _) rfl rfl) rfl ?_
      refine w_pure want_none (y_loadI (i := 0) Try.isAgg83 Try.sizeOf83 (by first | omega | rfl | (simp only [pad_len, List.length_map, List.length_set, List.length_append, List.length_take, List.length_drop, List.length_replicate, List.length_cons, List.length_nil] <;> omega)) hs27 rfl rfl rfl) rfl ?_
      refine w_call want_none Try.call54 rfl rfl rfl rfl (loads_con2 (X := [_]) (M := [_]) p _ c m pb (ats_own (i := 0) (vs := [_, _, _, _, _]) rfl rfl) ha.cons.cons (check_ok (enter_ok hee).1) (pad l) (pad_len l) (pad_in hee) (memo_new _ _ _) hs27) ?_
      rintro _ w38 ⟨Z, M1, al2, cl2, rfl, hM1, hz, hsl, hs39⟩
      have hlo := loads_len p (pad l)
      have hok := check_ok (enter_ok hee).1
      have hcome := hok.come
      refine w_pure want_none (y_lenS Try.underlying86 rfl rfl) rfl ?_
      refine w_pure want_none (y_move (v := _) rfl rfl) rfl ?_
      refine w_nil ?_
      refine q_then (hK35 _ _ ?_)
      refine w_block ?_
      refine w_loop [4, 9, 24, 25, 26, 27, 28, 29, 30, 31, 32, 33, 34, 35, 36] [4, 24] (fun k vs w => ∃ (i : Nat) (v : Value) (B : List (Nat × Obj)), vs = [v, .int .i64 i] ∧ i ≤ (loads p (pad l)).length ∧ k = (loads p (pad l)).length - i ∧ Rt.Own v 23 2 i (qcells ((loads p (pad l)).take i)).flatten B ∧ St w0 w (B ++ Z)) ((loads p (pad l)).length) ?_ ?_
      ·
        exact ⟨0, _, [], rfl, by omega, by omega, own_nil 23 2, hs39⟩
      ·
        intro k vs μ w42 hI K41 hN40
        obtain ⟨i, v, B, rfl, hia, rfl, hown, hs⟩ := hI
        refine w_seq (fun K44 hK43 => ?_)
        refine w_region ?_
        refine w_pure want_none (y_lss rfl rfl rfl rfl) rfl ?_
        refine w_nil ?_
        refine q_then (hK43 _ _ ?_)
        refine w_seq (fun K46 hK45 => ?_)
        refine w_cond rfl rfl (fun h47 => ?_) (fun h47 => ?_)
        ·
          try simp only [Bool.not_eq_true', Bool.not_eq_false', decide_eq_true_eq, decide_eq_false_iff_not, Int.not_lt, Int.not_le] at h47
          refine w_skip ?_
          refine q_then (hK45 _ _ ?_)
          refine w_seq (fun K49 hK48 => ?_)
          refine w_block ?_
          refine w_seq (fun K51 hK50 => ?_)
          have hx2 : i < (loads p (pad l)).length := by omega
          obtain ⟨bx, ox, rfl, hx⟩ := sl_load hsl hx2
          refine w_region ?_
          refine w_pure want_none (y_indexS Try.underlying86 Try.sizeOf89 rfl rfl rfl rfl (i := _) rfl (by omega)) rfl ?_
          refine w_pure want_none (y_loadN (vs := [_, _, _]) Try.isAgg89 Try.sizeOf89 hs.drop rfl rfl hx) rfl ?_
          refine w_alloc (cs := [_, _, _]) want_none Try.zeroValue89 rfl hs (fun b52 w53 hs54 => ?_)
          refine w_store (i := 0) (v := .agg #[.int _ _, .int _ _, .int _ _]) (vs := [_, _, _]) want_none Try.sizeOf89 rfl rfl rfl rfl rfl (by simp [Value.oneCell']) hs54 rfl (Nat.le_of_ble_eq_true rfl) (fun w55 hs56 => ?_)
          refine w_nil ?_
          refine q_then (hK50 _ _ ?_)
          refine w_region ?_
          refine w_pure want_none (y_move (v := v) rfl rfl) rfl ?_
          refine w_pure want_none (y_fieldAddr (o := 0) (i := 0) Try.underlying89 rfl Try.sizeOf3 rfl rfl rfl) rfl ?_
          refine w_pure want_none (y_load1 Try.isAgg3 hs56 rfl rfl (ats_own (i := 0) (vs := [_]) rfl rfl)) rfl ?_
          refine w_pure want_none (y_fieldAddr (o := 1) (i := 1) Try.underlying89 rfl Try.sizeOf3 rfl rfl rfl) rfl ?_
          refine w_pure want_none (y_load1 Try.isAgg3 hs56 rfl rfl (ats_own (i := 0) (vs := [_]) rfl rfl)) rfl ?_
          refine w_pure want_none (y_build (ps := [(0, _), (1, _)]) (pv := [(0, .int _ _), (1, .int _ _)]) rfl rfl (fun w => Try_J_fb5 _ _ w)) rfl ?_
          refine w_bslice (ps := [(0, _)]) (pv := [(0, .agg #[.int _ _, .int _ _])]) (cs := [_, _]) want_none rfl rfl (fun w => Try_J_fb6 _ _ w) hs56 (fun b57 w58 hs59 => ?_)
          refine w_append (X := (_ :: _ :: [])) (B := B) (rows := [[_, _]]) (sz := 2) (bytes := 16) want_none Try.underlying31 Try_info23 rfl rfl rfl rfl rfl rfl rfl rfl rfl hs59 hown (sl_own (i := 0) rfl (by simp) rfl) rfl (by simp) (by simp [Value.oneCell']) (by simp only [maxLen]; omega) (by omega) (fun v60 w61 B62 ho63 hs64 => ?_)
          replace hs64 := (show St _ _ (_ :: _ :: B62 ++ (Z)) from hs64)
          refine w_pure want_none (y_assign (v := v60) rfl rfl) rfl ?_
          refine w_nil ?_
          refine q_blk_normal ?_
          refine q_then (hK48 _ _ ?_)
          refine w_region ?_
          refine w_pure want_none (y_add rfl rfl rfl rfl (by omega) (by omega)) rfl ?_
          refine w_pure want_none (y_move (v := .int _ _) rfl rfl) rfl ?_
          refine w_nil ?_
          refine q_then (hN40 _ _ (Nx.intro ((loads p (pad l)).length - (i + 1)) (by omega) (by repeat (first | exact agree_mix | refine agree_upd rfl ?_ | refine agree_updL rfl ?_ _ | refine agree_mixin rfl ?_)) ?_))
          exact ⟨i + 1, _, _, rfl, by omega, rfl, by rw [← qcells_succ hx2]; exact ho63, hs64.tail.tail⟩
        ·
          try simp only [Bool.not_eq_true', Bool.not_eq_false', decide_eq_true_eq, decide_eq_false_iff_not, Int.not_lt, Int.not_le] at h47
          refine w_exit ?_
          refine q_then_exit ?_
          refine q_then_exit ?_
          refine q_blk_this ?_
          refine q_then (hK33 _ _ ?_)
          refine w_seq (fun K66 hK65 => ?_)
          refine w_region ?_
          refine w_pure want_none (y_move (v := v) rfl rfl) rfl ?_
          refine w_pure want_none (y_assign (v := v) rfl rfl) rfl ?_
          refine w_pure want_none (y_assign (v := _) rfl rfl) rfl ?_
          refine w_nil ?_
          refine q_then (hK65 _ _ ?_)
          refine w_ret ?_
          refine q_ret (l := [.tmp 4, .tmp 5]) (vs := [_, _]) rfl ⟨⟨rfl, show _ = (v : Value) from rfl⟩, ⟨rfl, show _ = (.int _ _ : Value) from rfl⟩, trivial⟩ ?_
          first
            | contradiction
            | (refine ⟨[], none, 0, ?_, ?_, hs.drop⟩ <;> rw [q_none hee] <;> first | rfl | exact Sl.nil _ _)
            | (obtain ⟨aw, cw, rfl, hsw⟩ := hown.sl (w0 := w0) (rows := qcells (loads p (pad l))) (by intro row hr; obtain ⟨x, _, rfl⟩ := List.mem_map.1 hr; rfl) (by rw [List.length_map]; omega) (by rw [List.take_of_length_le (by omega)]) F
               rw [hee]
               rw [q_some hee] at hsw
               rw [show (qcells (loads p (pad l))).length = (quayR p l).length from by rw [q_some hee, List.length_map]]
               exact ⟨B, aw, cw, rfl, hsw, drop_quay (St.cast (congrArg (B ++ ·) hz) hs)⟩)

end Go.Proofs
