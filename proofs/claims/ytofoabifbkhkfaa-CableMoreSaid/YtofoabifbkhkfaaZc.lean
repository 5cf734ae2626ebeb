/- Walks of this seat, printed by gen.py over the engine: what each function returns, in whatever world. No conditions but those of each contract. -/
import Derived.Test.YtofoabifbkhkfaaZ
set_option linter.unusedVariables false
set_option linter.unusedSimpArgs false
set_option maxRecDepth 20000
namespace Go.Proofs
open Go.Rt
attribute [local irreducible] WL WC Con Yd At Ats Sl Agree DW
theorem Try_Zc_fb9 (x0 : Int) (w : World) : (Instr.buildSlice 27 1 [(0, .int .i64 x0)].toArray).run Try.prog w = .ok (.slice (some ⟨w.heap.size, 0, none⟩) 1 1) (w.alloc (Go.Rt.blk 3 [.int .i64 x0])) := by kernel_rfl
theorem c37 {w0 w : World} {F : List (Nat × Obj)} (p : Port) (a : Option Addr) (c : Nat) (hl3 : p.farms.length ≤ 9223372036854775807) (hc : p.farms.length ≤ c) (ha : Sl w0 F a 6 (rows p.farms)) (hnm : ∀ f ∈ p.farms, f.name.size ≤ 9223372036854775807)  (hs : St w0 w F) :
  Con Try.prog 37 [.agg (p.cells a c).toArray] w fun v w' => v = .bool (decide ((check p).2.2 = 0)) ∧ St w0 w' F := by
  refine con_of_wc (n := 14) Try.func37 rfl rfl (Nat.le_of_ble_eq_true rfl) ?_
  refine w_seq (fun K2 hK1 => ?_)
  refine w_region ?_
  refine w_box (v := .agg #[.int _ _, .int _ _, .int _ _, .slice _ _ _]) (cs := [_, _, _, _]) want_none rfl rfl rfl hs (fun b3 w4 hs5 => ?_)
  refine w_pure want_none (y_assign (v := _) rfl rfl) rfl ?_
  refine w_nil ?_
  refine q_then (hK1 _ _ ?_)
  refine w_seq (fun K7 hK6 => ?_)
  refine w_region ?_
  refine w_pure want_none (y_loadN (vs := [_, _, _, _]) Try.isAgg26 Try.sizeOf26 hs5 rfl rfl (ats_own (i := 0) (vs := [_, _, _, _]) rfl rfl)) rfl ?_
  refine w_call want_none Try.call17 rfl rfl rfl rfl (c17 p _ _ (by omega) (by omega) ha.cons hnm hs5) ?_
  rintro _ w9 ⟨rfl, hs10⟩
  refine w_pure want_none (y_move (v := .tuple _) rfl rfl) rfl ?_
  refine w_pure want_none (y_extract (v := .int _ _) rfl rfl rfl) rfl ?_
  refine w_pure want_none (y_extract (v := .int _ _) rfl rfl rfl) rfl ?_
  refine w_pure want_none (y_extract (v := .int _ _) rfl rfl rfl) rfl ?_
  refine w_pure want_none (y_assign (v := .int _ _) rfl rfl) rfl ?_
  refine w_pure want_none (y_assign (v := .int _ _) rfl rfl) rfl ?_
  refine w_pure want_none (y_assign (v := .int _ _) rfl rfl) rfl ?_
  refine w_nil ?_
  refine q_then (hK6 _ _ ?_)
  refine w_seq (fun K12 hK11 => ?_)
  refine w_region ?_
  refine w_pure want_none (y_move (v := .int _ _) rfl rfl) rfl ?_
  refine w_pure want_none (y_eql rfl rfl rfl rfl) rfl ?_
  refine w_pure want_none (y_assign (v := .bool _) rfl rfl) rfl ?_
  refine w_nil ?_
  refine q_then (hK11 _ _ ?_)
  refine w_ret ?_
  refine q_ret (l := [.tmp 2]) (vs := [_]) rfl ⟨⟨rfl, show _ = (.bool _ : Value) from rfl⟩, trivial⟩ ?_
  exact ⟨rfl, hs10.tail⟩

theorem fine_step {l : List Int} {i n : Nat} (hi : i < l.length) (m : Bool) (hm : m = (decide (l.length = n) && !(l.take i).any (out (-1) 10))) (x : Bool) (hx : x = (m && decide (-1 ≤ l[i] ∧ l[i] ≤ 10))) : x = (decide (l.length = n) && !(l.take (i + 1)).any (out (-1) 10)) := by
  subst hm hx
  rw [any_take_succ hi, Bool.not_or, ← Bool.and_assoc]
  congr 1
  rw [Bool.eq_iff_iff]
  simp [out]
theorem fine_ok {l : List Int} {n : Nat} (h : l.length = n) (h2 : ∀ z ∈ l, -1 ≤ z ∧ z ≤ 10) : (decide (l.length = n) && !l.any (out (-1) 10)) = true := by
  have : l.any (out (-1) 10) = false := by
    rw [List.any_eq_false]
    intro z hz
    have := h2 z hz
    simp only [out, Bool.or_eq_true, decide_eq_true_eq]; omega
  simp [h, this]
theorem c38 {w0 w : World} {F : List (Nat × Obj)} (p : Port) (a : Option Addr) (c : Nat) (hl3 : p.farms.length ≤ 9223372036854775807) (al : Option Addr) (cl : Nat) (l : List Int) (hll : l.length ≤ 9223372036854775807) (hl : Sl w0 F al 1 (l.map fun x => [Value.int .i64 x])) (hs : St w0 w F) :
  Con Try.prog 38 [.agg (p.cells a c).toArray, .slice al l.length cl] w fun v w' => v = .bool (decide (l.length = p.farms.length) && !l.any (out (-1) 10)) ∧ St w0 w' F := by
  refine con_of_wc (n := 28) Try.func38 rfl rfl (Nat.le_of_ble_eq_true rfl) ?_
  refine w_seq (fun K2 hK1 => ?_)
  refine w_region ?_
  refine w_box (v := .agg #[.int _ _, .int _ _, .int _ _, .slice _ _ _]) (cs := [_, _, _, _]) want_none rfl rfl rfl hs (fun b3 w4 hs5 => ?_)
  refine w_pure want_none (y_assign (v := _) rfl rfl) rfl ?_
  refine w_nil ?_
  refine q_then (hK1 _ _ ?_)
  refine w_seq (fun K7 hK6 => ?_)
  refine w_region ?_
  refine w_pure want_none (y_move (v := .slice _ _ _) rfl rfl) rfl ?_
  refine w_pure want_none (y_lenS Try.underlying27 rfl rfl) rfl ?_
  refine w_pure want_none (y_fieldAddr (o := 3) (i := 2) Try.underlying26 rfl Try.sizeOf24 rfl rfl rfl) rfl ?_
  refine w_pure want_none (y_load1 Try.isAgg24 hs5 rfl rfl (ats_own (i := 0) (vs := [_]) rfl rfl)) rfl ?_
  refine w_pure want_none (y_lenS Try.underlying24 rfl rfl) rfl ?_
  refine w_pure want_none (y_eql rfl rfl rfl rfl) rfl ?_
  refine w_pure want_none (y_assign (v := .bool _) rfl rfl) rfl ?_
  refine w_nil ?_
  refine q_then (hK6 _ _ ?_)
  refine w_seq (fun K9 hK8 => ?_)
  refine w_seq (fun K11 hK10 => ?_)
  refine w_region ?_
  refine w_pure want_none (y_assign (v := _) rfl rfl) rfl ?_
  refine w_nil ?_
  refine q_then (hK10 _ _ ?_)
  refine w_block ?_
  refine w_loop [5, 6, 13, 14, 15, 16, 17, 18, 19, 20, 21, 22, 23, 24, 25, 26] [5, 6] (fun kk vs w => ∃ (i : Nat) (m : Bool), m = (decide (l.length = p.farms.length) && !(l.take i).any (out (-1) 10)) ∧ vs = [.bool m, .int .i64 i] ∧ i ≤ l.length ∧ kk = l.length - i ∧ St w0 w ((b3, blk 26 (p.cells a c)) :: F)) (l.length) ?_ ?_
  ·
    exact ⟨0, _, (by simp only [List.take_zero, List.any_nil, Bool.not_false, Bool.and_true]; rw [Bool.eq_iff_iff]; simp only [decide_eq_true_eq]; omega), rfl, by omega, by omega, hs5⟩
  ·
    intro k vs μ w14 hI K13 hN12
    obtain ⟨i, m, hm, rfl, hia, rfl, hs⟩ := hI
    refine w_seq (fun K16 hK15 => ?_)
    refine w_seq (fun K18 hK17 => ?_)
    refine w_region ?_
    refine w_pure want_none (y_move (v := .int _ _) rfl rfl) rfl ?_
    refine w_pure want_none (y_move (v := .slice _ _ _) rfl rfl) rfl ?_
    refine w_pure want_none (y_lenS Try.underlying27 rfl rfl) rfl ?_
    refine w_pure want_none (y_lss rfl rfl rfl rfl) rfl ?_
    refine w_nil ?_
    refine q_then (hK17 _ _ ?_)
    refine w_cond rfl rfl (fun h19 => ?_) (fun h19 => ?_)
    ·
      try simp only [Bool.not_eq_true', Bool.not_eq_false', decide_eq_true_eq, decide_eq_false_iff_not, Int.not_lt, Int.not_le] at h19
      refine w_skip ?_
      refine q_then (hK15 _ _ ?_)
      refine w_seq (fun K21 hK20 => ?_)
      refine w_block ?_
      have hi2 : i < l.length := by omega
      obtain ⟨bl, ol, rfl, hxl⟩ := sl_ints hl hi2
      refine w_region ?_
      refine w_pure want_none (y_move (v := .bool _) rfl rfl) rfl ?_
      refine w_pure want_none (y_move (v := .bool _) rfl rfl) rfl ?_
      refine w_split (fun h22 => ?_) (fun h22 => ?_)
      ·
        try simp only [Bool.not_eq_true', Bool.not_eq_false', decide_eq_true_eq, decide_eq_false_iff_not, Int.not_lt, Int.not_le] at h22
        refine w_pure (want_yes rfl rfl rfl) (y_move (v := .slice _ _ _) rfl rfl) rfl ?_
        refine w_pure (want_yes rfl rfl rfl) (y_move (v := .int _ _) rfl rfl) rfl ?_
        refine w_pure (want_yes rfl rfl rfl) (y_indexS Try.underlying27 Try.sizeOf3 rfl rfl rfl rfl (i := _) rfl (by omega)) rfl ?_
        refine w_pure (want_yes rfl rfl rfl) (y_load1 Try.isAgg3 hs.tail rfl rfl hxl) rfl ?_
        refine w_call (want_yes rfl rfl rfl) Try.call45 rfl rfl rfl rfl (c45 _ _ _ hs) ?_
        rintro _ w24 ⟨rfl, hs25⟩
        refine w_pure want_none (y_pickT (v := .bool _) rfl rfl rfl rfl) rfl ?_
        refine w_pure want_none (y_assign (v := .bool _) rfl rfl) rfl ?_
        refine w_nil ?_
        refine q_blk_normal ?_
        refine q_then (hK20 _ _ ?_)
        refine w_region ?_
        refine w_pure want_none (y_move (v := .int _ _) rfl rfl) rfl ?_
        refine w_pure want_none (y_add rfl rfl rfl rfl (by omega) (by omega)) rfl ?_
        refine w_pure want_none (y_assign (v := .int _ _) rfl rfl) rfl ?_
        refine w_nil ?_
        refine q_then (hN12 _ _ (Nx.intro (l.length - (i + 1)) (by omega) (by repeat (first | exact agree_mix | refine agree_upd rfl ?_ | refine agree_updL rfl ?_ _ | refine agree_mixin rfl ?_)) ?_))
        exact ⟨i + 1, _, fine_step hi2 m hm _ (by simp [h19, h22]), rfl, by omega, rfl, hs25⟩
      ·
        try simp only [Bool.not_eq_true', Bool.not_eq_false', decide_eq_true_eq, decide_eq_false_iff_not, Int.not_lt, Int.not_le] at h22
        refine w_skipop rfl rfl rfl ?_
        refine w_skipop rfl rfl rfl ?_
        refine w_skipop rfl rfl rfl ?_
        refine w_skipop rfl rfl rfl ?_
        refine w_skipop rfl rfl rfl ?_
        refine w_pure want_none (y_pickF (v := _) rfl rfl rfl rfl) rfl ?_
        refine w_pure want_none (y_assign (v := .bool _) rfl rfl) rfl ?_
        refine w_nil ?_
        refine q_blk_normal ?_
        refine q_then (hK20 _ _ ?_)
        refine w_region ?_
        refine w_pure want_none (y_move (v := .int _ _) rfl rfl) rfl ?_
        refine w_pure want_none (y_add rfl rfl rfl rfl (by omega) (by omega)) rfl ?_
        refine w_pure want_none (y_assign (v := .int _ _) rfl rfl) rfl ?_
        refine w_nil ?_
        refine q_then (hN12 _ _ (Nx.intro (l.length - (i + 1)) (by omega) (by repeat (first | exact agree_mix | refine agree_upd rfl ?_ | refine agree_updL rfl ?_ _ | refine agree_mixin rfl ?_)) ?_))
        exact ⟨i + 1, _, fine_step hi2 m hm _ (by simp [h19, h22]), rfl, by omega, rfl, hs⟩
    ·
      try simp only [Bool.not_eq_true', Bool.not_eq_false', decide_eq_true_eq, decide_eq_false_iff_not, Int.not_lt, Int.not_le] at h19
      refine w_exit ?_
      refine q_then_exit ?_
      refine q_then_exit ?_
      refine q_blk_this ?_
      refine q_then (hK8 _ _ ?_)
      refine w_seq (fun K27 hK26 => ?_)
      refine w_region ?_
      refine w_pure want_none (y_move (v := .bool _) rfl rfl) rfl ?_
      refine w_pure want_none (y_assign (v := .bool _) rfl rfl) rfl ?_
      refine w_nil ?_
      refine q_then (hK26 _ _ ?_)
      refine w_ret ?_
      refine q_ret (l := [.tmp 4]) (vs := [_]) rfl ⟨⟨rfl, show _ = (.bool _ : Value) from rfl⟩, trivial⟩ ?_
      rw [List.take_of_length_le (by omega)] at hm
      exact ⟨congrArg Value.bool hm, hs.tail⟩

theorem sl_u8 {w0 : World} {F : List (Nat × Obj)} {a : Option Addr} {l : List Int} {i : Nat} (h : Sl w0 F a 1 (l.map fun x => [Value.int .u8 x])) (hi : i < l.length) :
    ∃ b off, a = some ⟨b, off, none⟩ ∧ Ats w0 F b (off + i * 1) [.int .u8 l[i]] := by
  obtain ⟨b, off, ha, _, hat⟩ := h.at (i := i) (row := [.int .u8 l[i]]) (by simp [hi])
  exact ⟨b, off, ha, hat⟩
theorem turn_at {x : List Int} {n : Nat} (h : 0 < x.length) : x[n % x.length]'(Nat.mod_lt _ h) = turnOf x n := by
  unfold turnOf
  rw [if_neg (by omega)]
  simp [List.getD, Nat.mod_lt _ h]
theorem c70 {w0 w : World} {F : List (Nat × Obj)} (ax : Option Addr) (cx : Nat) (x : List Int) (hxl : x.length ≤ 9223372036854775807) (hxs : Sl w0 F ax 1 (x.map fun n => [Value.int .u8 n])) (hxr : ∀ z ∈ x, 0 ≤ z ∧ z ≤ 255) (n : Nat) (hs : St w0 w F) :
  Con Try.prog 70 [.slice ax x.length cx, .int .i64 (n : Int)] w fun v w' => v = .int .i64 (turnOf x n) ∧ St w0 w' F := by
  refine con_of_wc (n := 16) Try.func70 rfl rfl (Nat.le_of_ble_eq_true rfl) ?_
  refine w_seq (fun K2 hK1 => ?_)
  refine w_region ?_
  refine w_pure want_none (y_assign (v := _) rfl rfl) rfl ?_
  refine w_nil ?_
  refine q_then (hK1 _ _ ?_)
  refine w_seq (fun K4 hK3 => ?_)
  refine w_seq (fun K6 hK5 => ?_)
  refine w_region ?_
  refine w_pure want_none (y_move (v := .slice _ _ _) rfl rfl) rfl ?_
  refine w_pure want_none (y_lenS Try.underlying46 rfl rfl) rfl ?_
  refine w_pure want_none (y_eql rfl rfl rfl rfl) rfl ?_
  refine w_nil ?_
  refine q_then (hK5 _ _ ?_)
  refine w_cond rfl rfl (fun h7 => ?_) (fun h7 => ?_)
  ·
    try simp only [Bool.not_eq_true', Bool.not_eq_false', decide_eq_true_eq, decide_eq_false_iff_not, Int.not_lt, Int.not_le] at h7
    refine w_seq (fun K9 hK8 => ?_)
    refine w_region ?_
    refine w_pure want_none (y_assign (v := _) rfl rfl) rfl ?_
    refine w_nil ?_
    refine q_then (hK8 _ _ ?_)
    refine w_ret ?_
    refine q_then_ret ?_
    refine q_ret (l := [.tmp 4]) (vs := [_]) rfl ⟨⟨rfl, show _ = (.int _ _ : Value) from rfl⟩, trivial⟩ ?_
    first
      | exact ⟨congrArg (Value.int .i64) (by unfold turnOf; rw [if_pos (by omega)]), hs⟩
      | exact ⟨congrArg (Value.int .i64) (turn_at hx0), hs⟩
  ·
    try simp only [Bool.not_eq_true', Bool.not_eq_false', decide_eq_true_eq, decide_eq_false_iff_not, Int.not_lt, Int.not_le] at h7
    refine w_skip ?_
    refine q_then (hK3 _ _ ?_)
    refine w_seq (fun K11 hK10 => ?_)
    have hx0 : 0 < x.length := by omega
    have hm := Nat.mod_lt n hx0
    obtain ⟨bx, ox, rfl, hx⟩ := sl_u8 hxs hm
    have hr := hxr _ (List.getElem_mem hm)
    refine w_region ?_
    refine w_pure want_none (y_move (v := .slice _ _ _) rfl rfl) rfl ?_
    refine w_pure want_none (y_move (v := .int _ _) rfl rfl) rfl ?_
    refine w_pure want_none (y_move (v := .slice _ _ _) rfl rfl) rfl ?_
    refine w_pure want_none (y_lenS Try.underlying46 rfl rfl) rfl ?_
    refine w_pure want_none (y_rem rfl rfl rfl rfl (by omega) (by omega)) rfl ?_
    refine w_pure want_none (y_indexS Try.underlying46 Try.sizeOf5 rfl rfl rfl rfl (i := n % x.length) (by simp) hm) rfl ?_
    refine w_pure want_none (y_load1 Try.isAgg5 hs rfl rfl hx) rfl ?_
    refine w_pure want_none (y_u8int (by rw [Try.underlying5]; rfl) Try.underlying3 rfl rfl (by omega) (by omega)) rfl ?_
    refine w_pure want_none (y_assign (v := .int _ _) rfl rfl) rfl ?_
    refine w_nil ?_
    refine q_then (hK10 _ _ ?_)
    refine w_ret ?_
    refine q_ret (l := [.tmp 4]) (vs := [_]) rfl ⟨⟨rfl, show _ = (.int _ _ : Value) from rfl⟩, trivial⟩ ?_
    first
      | exact ⟨congrArg (Value.int .i64) (by unfold turnOf; rw [if_pos (by omega)]), hs⟩
      | exact ⟨congrArg (Value.int .i64) (turn_at hx0), hs⟩

theorem any_next {v : Value} {n : Nat} {x : List Int} {d : Int} {B : List (Nat × Obj)} (h : Rt.Own v 3 1 (n + 1) (iv (anyC n x) ++ [[Value.int .i64 d]].flatten) B) (hd : d = turnOf x n % 12 - 1) : Rt.Own v 3 1 (n + 1) (iv (anyC (n + 1) x)) B := by
  subst hd
  rw [any_succ]
  simpa [iv] using h
theorem c40 {w0 w : World} {F : List (Nat × Obj)} (p : Port) (a : Option Addr) (c : Nat) (h3 : p.farms.length ≤ 1000) (ax : Option Addr) (cx : Nat) (x : List Int) (hxl : x.length ≤ 9223372036854775807) (hxs : Sl w0 F ax 1 (x.map fun n => [Value.int .u8 n])) (hxr : ∀ z ∈ x, 0 ≤ z ∧ z ≤ 255) (hs : St w0 w F) :
  Con Try.prog 40 [.agg (p.cells a c).toArray, .slice ax x.length cx] w fun v w' => ∃ B aq cq, v = .slice aq (anyC p.farms.length x).length cq ∧ Sl w0 (B ++ F) aq 1 ((anyC p.farms.length x).map fun x => [Value.int .i64 x]) ∧ St w0 w' (B ++ F) := by
  refine con_of_wc (n := 23) Try.func40 rfl rfl (Nat.le_of_ble_eq_true rfl) ?_
  refine w_seq (fun K2 hK1 => ?_)
  refine w_region ?_
  refine w_box (v := .agg #[.int _ _, .int _ _, .int _ _, .slice _ _ _]) (cs := [_, _, _, _]) want_none rfl rfl rfl hs (fun b3 w4 hs5 => ?_)
  refine w_pure want_none (y_assign (v := _) rfl rfl) rfl ?_
  refine w_nil ?_
  refine q_then (hK1 _ _ ?_)
  refine w_seq (fun K7 hK6 => ?_)
  refine w_region ?_
  refine w_pure want_none (y_assign (v := _) rfl rfl) rfl ?_
  refine w_nil ?_
  refine q_then (hK6 _ _ ?_)
  refine w_seq (fun K9 hK8 => ?_)
  refine w_seq (fun K11 hK10 => ?_)
  refine w_region ?_
  refine w_pure want_none (y_assign (v := _) rfl rfl) rfl ?_
  refine w_nil ?_
  refine q_then (hK10 _ _ ?_)
  refine w_block ?_
  refine w_loop [5, 6, 7, 8, 9, 10, 11, 12, 13, 14, 15, 16, 17, 18, 19, 20, 21] [5, 6] (fun kk vs w => ∃ (i : Nat) (v : Value) (B : List (Nat × Obj)), vs = [v, .int .i64 i] ∧ i ≤ p.farms.length ∧ kk = p.farms.length - i ∧ Rt.Own v 3 1 i (iv (anyC i x)) B ∧ St w0 w ((b3, blk 26 (p.cells a c)) :: (B ++ F))) (p.farms.length) ?_ ?_
  ·
    exact ⟨0, _, [], rfl, by omega, by omega, own_nil 3 1, hs5⟩
  ·
    intro k vs μ w14 hI K13 hN12
    obtain ⟨i, v, B, rfl, hia, rfl, hown, hs⟩ := hI
    refine w_seq (fun K16 hK15 => ?_)
    refine w_seq (fun K18 hK17 => ?_)
    refine w_region ?_
    refine w_pure want_none (y_move (v := .int _ _) rfl rfl) rfl ?_
    refine w_pure want_none (y_fieldAddr (o := 3) (i := 2) Try.underlying26 rfl Try.sizeOf24 rfl rfl rfl) rfl ?_
    refine w_pure want_none (y_load1 Try.isAgg24 hs rfl rfl (ats_own (i := 0) (vs := [_]) rfl rfl)) rfl ?_
    refine w_pure want_none (y_lenS Try.underlying24 rfl rfl) rfl ?_
    refine w_pure want_none (y_lss rfl rfl rfl rfl) rfl ?_
    refine w_nil ?_
    refine q_then (hK17 _ _ ?_)
    refine w_cond rfl rfl (fun h19 => ?_) (fun h19 => ?_)
    ·
      try simp only [Bool.not_eq_true', Bool.not_eq_false', decide_eq_true_eq, decide_eq_false_iff_not, Int.not_lt, Int.not_le] at h19
      refine w_skip ?_
      refine q_then (hK15 _ _ ?_)
      refine w_seq (fun K21 hK20 => ?_)
      refine w_block ?_
      have htr := turn_in hxr i
      refine w_region ?_
      refine w_pure want_none (y_move (v := v) rfl rfl) rfl ?_
      refine w_pure want_none (y_move (v := .slice _ _ _) rfl rfl) rfl ?_
      refine w_pure want_none (y_move (v := .int _ _) rfl rfl) rfl ?_
      refine w_call want_none Try.call70 rfl rfl rfl rfl (c70 _ _ x hxl hxs.app.cons hxr _ hs) ?_
      rintro _ w23 ⟨rfl, hs24⟩
      refine w_pure want_none (y_rem rfl rfl rfl rfl (by omega) (by omega)) rfl ?_
      refine w_pure want_none (y_sub rfl rfl rfl rfl (by omega) (by omega)) rfl ?_
      refine w_bslice (ps := [(0, _)]) (pv := [(0, .int _ _)]) (cs := [_]) want_none rfl rfl (fun w => Try_Zc_fb9 _ w) hs24 (fun b25 w26 hs27 => ?_)
      refine w_append (X := (_ :: _ :: [])) (B := B) (rows := [[_]]) (sz := 1) (bytes := 8) want_none Try.underlying27 Try_info3 rfl rfl rfl rfl rfl rfl rfl rfl rfl hs27 hown (sl_own (i := 0) rfl (by simp) rfl) rfl (by simp) (by simp [Value.oneCell']) (by simp only [maxLen]; omega) (by omega) (fun v28 w29 B30 ho31 hs32 => ?_)
      replace hs32 := (show St _ _ (_ :: _ :: B30 ++ (F)) from hs32)
      refine w_pure want_none (y_assign (v := v28) rfl rfl) rfl ?_
      refine w_nil ?_
      refine q_blk_normal ?_
      refine q_then (hK20 _ _ ?_)
      refine w_region ?_
      refine w_pure want_none (y_move (v := .int _ _) rfl rfl) rfl ?_
      refine w_pure want_none (y_add rfl rfl rfl rfl (by omega) (by omega)) rfl ?_
      refine w_pure want_none (y_assign (v := .int _ _) rfl rfl) rfl ?_
      refine w_nil ?_
      refine q_then (hN12 _ _ (Nx.intro (p.farms.length - (i + 1)) (by omega) (by repeat (first | exact agree_mix | refine agree_upd rfl ?_ | refine agree_updL rfl ?_ _ | refine agree_mixin rfl ?_)) ?_))
      exact ⟨i + 1, _, _, rfl, by omega, rfl, any_next ho31 rfl, hs32.tail⟩
    ·
      try simp only [Bool.not_eq_true', Bool.not_eq_false', decide_eq_true_eq, decide_eq_false_iff_not, Int.not_lt, Int.not_le] at h19
      refine w_exit ?_
      refine q_then_exit ?_
      refine q_then_exit ?_
      refine q_blk_this ?_
      refine q_then (hK8 _ _ ?_)
      refine w_seq (fun K34 hK33 => ?_)
      refine w_region ?_
      refine w_pure want_none (y_move (v := v) rfl rfl) rfl ?_
      refine w_pure want_none (y_assign (v := v) rfl rfl) rfl ?_
      refine w_nil ?_
      refine q_then (hK33 _ _ ?_)
      refine w_ret ?_
      refine q_ret (l := [.tmp 4]) (vs := [_]) rfl ⟨⟨rfl, show _ = (v : Value) from rfl⟩, trivial⟩ ?_
      have hil : i = p.farms.length := by omega
      subst hil
      obtain ⟨aw, cw, rfl, hsw⟩ := own_sl_map (w0 := w0) hown (any_len _ _) F
      exact ⟨B, aw, cw, rfl, hsw, hs.tail⟩

theorem c39 {w0 w : World} {F : List (Nat × Obj)} (p : Port) (a : Option Addr) (c : Nat) (ha : Sl w0 F a 6 (rows p.farms)) (hok : p.Ok) (al : Option Addr) (cl : Nat) (l : List Int) (hlen : l.length = p.farms.length) (hl : Sl w0 F al 1 (l.map fun x => [Value.int .i64 x])) (hl1 : ∀ x ∈ l, -1 ≤ x ∧ x ≤ 10) (d : Int) (hd : 0 ≤ d ∧ d ≤ 255) (ax : Option Addr) (cx : Nat) (x : List Int) (hxl : x.length ≤ 9223372036854775807) (hxs : Sl w0 F ax 1 (x.map fun n => [Value.int .u8 n])) (hxr : ∀ z ∈ x, 0 ≤ z ∧ z ≤ 255) (hs : St w0 w F) :
  Con Try.prog 39 [.agg (p.cells a c).toArray, .slice al l.length cl, .agg #[.int .u8 d, .slice ax x.length cx]] w fun v w' => v = .tuple #[.int .i64 (trU p.farms l x (p.clo + d % (p.chi - p.clo + 1)) p.farms.length).1, .int .i64 (trU p.farms l x (p.clo + d % (p.chi - p.clo + 1)) p.farms.length).2, .int .i64 (d % (p.chi - p.clo + 1))] ∧ St w0 w' F := by
  refine con_of_wc (n := 83) Try.func39 rfl rfl (Nat.le_of_ble_eq_true rfl) ?_
  have hlen3 := hok.len
  have hcome := hok.come
  have hq1 := Int.emod_nonneg d (show p.chi - p.clo + 1 ≠ 0 by omega)
  have hq2 := Int.emod_lt_of_pos d (show 0 < p.chi - p.clo + 1 by omega)
  refine w_seq (fun K2 hK1 => ?_)
  refine w_region ?_
  refine w_box (v := .agg #[.int _ _, .int _ _, .int _ _, .slice _ _ _]) (cs := [_, _, _, _]) want_none rfl rfl rfl hs (fun b3 w4 hs5 => ?_)
  refine w_box (v := .agg #[.int _ _, .slice _ _ _]) (cs := [_, _]) want_none rfl rfl rfl hs5 (fun b6 w7 hs8 => ?_)
  refine w_pure want_none (y_assign (v := _) rfl rfl) rfl ?_
  refine w_pure want_none (y_assign (v := _) rfl rfl) rfl ?_
  refine w_pure want_none (y_assign (v := _) rfl rfl) rfl ?_
  refine w_nil ?_
  refine q_then (hK1 _ _ ?_)
  refine w_seq (fun K10 hK9 => ?_)
  refine w_region ?_
  refine w_pure want_none (y_fieldAddr (o := 0) (i := 0) Try.underlying48 rfl Try.sizeOf5 rfl rfl rfl) rfl ?_
  refine w_pure want_none (y_load1 Try.isAgg5 hs8 rfl rfl (ats_own (i := 0) (vs := [_]) rfl rfl)) rfl ?_
  refine w_pure want_none (y_u8int (by rw [Try.underlying5]; rfl) Try.underlying3 rfl rfl (by omega) (by omega)) rfl ?_
  refine w_pure want_none (y_fieldAddr (o := 1) (i := 1) Try.underlying26 rfl Try.sizeOf23 rfl rfl rfl) rfl ?_
  refine w_pure want_none (y_fieldAddr (o := 1) (i := 1) Try.underlying23 rfl Try.sizeOf3 rfl rfl rfl) rfl ?_
  refine w_pure want_none (y_load1 Try.isAgg3 hs8 rfl rfl (ats_own (i := 1) (vs := [_]) rfl rfl)) rfl ?_
  refine w_pure want_none (y_fieldAddr (o := 1) (i := 1) Try.underlying26 rfl Try.sizeOf23 rfl rfl rfl) rfl ?_
  refine w_pure want_none (y_fieldAddr (o := 0) (i := 0) Try.underlying23 rfl Try.sizeOf3 rfl rfl rfl) rfl ?_
  refine w_pure want_none (y_load1 Try.isAgg3 hs8 rfl rfl (ats_own (i := 1) (vs := [_]) rfl rfl)) rfl ?_
  refine w_pure want_none (y_sub rfl rfl rfl rfl (by omega) (by omega)) rfl ?_
  refine w_pure want_none (y_add rfl rfl rfl rfl (by omega) (by omega)) rfl ?_
  refine w_pure want_none (y_rem rfl rfl rfl rfl (by omega) (by omega)) rfl ?_
  refine w_pure want_none (y_assign (v := .int _ _) rfl rfl) rfl ?_
  refine w_nil ?_
  refine q_then (hK9 _ _ ?_)
  refine w_seq (fun K12 hK11 => ?_)
  refine w_region ?_
  refine w_pure want_none (y_assign (v := _) rfl rfl) rfl ?_
  refine w_pure want_none (y_assign (v := _) rfl rfl) rfl ?_
  refine w_nil ?_
  refine q_then (hK11 _ _ ?_)
  refine w_seq (fun K14 hK13 => ?_)
  refine w_seq (fun K16 hK15 => ?_)
  refine w_region ?_
  refine w_pure want_none (y_assign (v := _) rfl rfl) rfl ?_
  refine w_nil ?_
  refine q_then (hK15 _ _ ?_)
  refine w_block ?_
  refine w_loop [10, 11, 12, 13, 14, 27, 28, 29, 30, 31, 32, 33, 34, 35, 36, 37, 38, 39, 40, 41, 42, 43, 44, 45, 46, 47, 48, 49, 50, 51, 52, 53, 54, 55, 56, 57, 58, 59, 60, 61, 62, 63, 64, 65, 66, 67, 68, 69, 70, 71, 72, 73, 74, 75, 76, 77, 78, 79] [10, 11, 12] (fun kk vs w => ∃ (i : Nat) (t : Int × Int), t = (trU p.farms l x (p.clo + d % (p.chi - p.clo + 1)) i) ∧ vs = [.int .i64 t.1, .int .i64 t.2, .int .i64 i] ∧ i ≤ p.farms.length ∧ kk = p.farms.length - i ∧ St w0 w ((b6, blk 48 [.int .u8 d, .slice ax x.length cx]) :: (b3, blk 26 (p.cells a c)) :: F)) (p.farms.length) ?_ ?_
  ·
    exact ⟨0, (0, 0), rfl, rfl, by omega, by omega, hs8⟩
  ·
    intro k vs μ w19 hI K18 hN17
    obtain ⟨i, t, ht, rfl, hia, rfl, hs⟩ := hI
    refine w_seq (fun K21 hK20 => ?_)
    refine w_seq (fun K23 hK22 => ?_)
    refine w_region ?_
    refine w_pure want_none (y_move (v := .int _ _) rfl rfl) rfl ?_
    refine w_pure want_none (y_fieldAddr (o := 3) (i := 2) Try.underlying26 rfl Try.sizeOf24 rfl rfl rfl) rfl ?_
    refine w_pure want_none (y_load1 Try.isAgg24 hs rfl rfl (ats_own (i := 1) (vs := [_]) rfl rfl)) rfl ?_
    refine w_pure want_none (y_lenS Try.underlying24 rfl rfl) rfl ?_
    refine w_pure want_none (y_lss rfl rfl rfl rfl) rfl ?_
    refine w_nil ?_
    refine q_then (hK22 _ _ ?_)
    refine w_cond rfl rfl (fun h24 => ?_) (fun h24 => ?_)
    ·
      try simp only [Bool.not_eq_true', Bool.not_eq_false', decide_eq_true_eq, decide_eq_false_iff_not, Int.not_lt, Int.not_le] at h24
      refine w_skip ?_
      refine q_then (hK20 _ _ ?_)
      refine w_seq (fun K26 hK25 => ?_)
      refine w_block ?_
      refine w_seq (fun K28 hK27 => ?_)
      have hi2 : i < p.farms.length := by omega
      have hi3 : i < l.length := by omega
      obtain ⟨bx, ox, rfl, hx⟩ := sl_farm ha hi2
      have hfo3 := hok.farm _ (List.getElem_mem hi2)
      have hfo2 := hfo3
      unfold Farm.Ok at hfo2
      obtain ⟨bl, ol, rfl, hzl⟩ := sl_ints hl hi3
      have hgd : l[i] = l.getD i 0 := by simp [List.getD, hi3]
      rw [hgd] at hzl
      have hb := tr_small (x := x) (day := (p.clo + d % (p.chi - p.clo + 1))) hok hlen i (by omega)
      have htu := turn_in hxr i
      have hoh := ownH_in hfo3 (t := turnOf x i)
      have hgi := hl1 _ (List.getElem_mem hi3)
      rw [hgd] at hgi
      rw [← ht] at hb
      have he1 := Int.emod_nonneg (turnOf x i) (show p.farms[i].hi - p.farms[i].lo + 1 ≠ 0 by omega)
      have he2 := Int.emod_lt_of_pos (turnOf x i) (show 0 < p.farms[i].hi - p.farms[i].lo + 1 by omega)
      refine w_region ?_
      refine w_pure want_none (y_fieldAddr (o := 3) (i := 2) Try.underlying26 rfl Try.sizeOf24 rfl rfl rfl) rfl ?_
      refine w_pure want_none (y_load1 Try.isAgg24 hs rfl rfl (ats_own (i := 1) (vs := [_]) rfl rfl)) rfl ?_
      refine w_pure want_none (y_move (v := .int _ _) rfl rfl) rfl ?_
      refine w_pure want_none (y_indexS Try.underlying24 Try.sizeOf60 rfl rfl rfl rfl (i := _) rfl (by omega)) rfl ?_
      refine w_pure want_none (y_fieldAddr (o := 4) (i := 4) Try.underlying60 rfl Try.sizeOf23 rfl rfl rfl) rfl ?_
      refine w_pure want_none (y_loadN (vs := [_, _]) Try.isAgg23 Try.sizeOf23 hs.tail.tail rfl rfl (show Ats _ _ _ _ [_, _] from Ats.part hx 4 2)) rfl ?_
      refine w_alloc (cs := [_, _]) want_none Try.zeroValue23 rfl hs (fun b29 w30 hs31 => ?_)
      refine w_store (i := 0) (v := .agg #[.int _ _, .int _ _]) (vs := [_, _]) want_none Try.sizeOf23 rfl rfl rfl rfl rfl (by simp [Value.oneCell']) hs31 rfl (Nat.le_of_ble_eq_true rfl) (fun w32 hs33 => ?_)
      refine w_nil ?_
      refine q_then (hK27 _ _ ?_)
      refine w_seq (fun K35 hK34 => ?_)
      refine w_draw [] [(0, 0), (1, 1), (2, 0), (3, 1), (4, 0), (6, 0), (7, 1), (8, 0), (9, 1), (10, 0), (11, 0), (5, 2), (12, 0), (13, 0), (14, 0)] Try_mo (by kernel_rfl) hs33 (fun w36 hs37 => ?_)
      refine d_any rfl want_none rfl (fun _ => (y_fieldAddr (o := 0) (i := 0) Try.underlying23 rfl Try.sizeOf3 rfl rfl rfl)) ?_
      refine d_take rfl want_none rfl hs37 (fun _ hq => (y_load1 Try.isAgg3 hq rfl rfl (ats_own (i := 0) (vs := [_]) rfl rfl))) ?_
      refine d_any rfl want_none rfl (fun _ => (y_fieldAddr (o := 1) (i := 1) Try.underlying48 rfl Try.sizeOf46 rfl rfl rfl)) ?_
      refine d_take rfl want_none rfl hs37 (fun _ hq => (y_load1 Try.isAgg46 hq rfl rfl (ats_own (i := 1) (vs := [_]) rfl rfl))) ?_
      refine d_any rfl want_none rfl (fun _ => (y_move (v := .int _ _) rfl rfl)) ?_
      refine d_any rfl want_none rfl (fun _ => (y_fieldAddr (o := 1) (i := 1) Try.underlying23 rfl Try.sizeOf3 rfl rfl rfl)) ?_
      refine d_take rfl want_none rfl hs37 (fun _ hq => (y_load1 Try.isAgg3 hq rfl rfl (ats_own (i := 0) (vs := [_]) rfl rfl))) ?_
      refine d_any rfl want_none rfl (fun _ => (y_fieldAddr (o := 0) (i := 0) Try.underlying23 rfl Try.sizeOf3 rfl rfl rfl)) ?_
      refine d_take rfl want_none rfl hs37 (fun _ hq => (y_load1 Try.isAgg3 hq rfl rfl (ats_own (i := 0) (vs := [_]) rfl rfl))) ?_
      refine d_any rfl want_none rfl (fun _ => (y_sub rfl rfl rfl rfl (by omega) (by omega))) ?_
      refine d_any rfl want_none rfl (fun _ => (y_add rfl rfl rfl rfl (by omega) (by omega))) ?_
      refine d_eff rfl ?_
      refine w_call want_none Try.call70 rfl rfl rfl rfl (c70 _ _ x hxl hxs.cons.cons.cons hxr _ hs37) ?_
      rintro _ w39 ⟨rfl, hs40⟩
      refine w_nil ?_
      refine qn ⟨hs40, ?_⟩
      refine d_any rfl want_none rfl (fun _ => (y_rem rfl rfl rfl rfl (by omega) (by omega))) ?_
      refine d_any rfl want_none rfl (fun _ => (y_add rfl rfl rfl rfl (by omega) (by omega))) ?_
      refine d_any rfl want_none rfl (fun _ => (y_assign (v := .int _ _) rfl rfl)) ?_
      refine d_nil ?_
      refine q_then (hK34 _ _ ?_)
      refine w_seq (fun K42 hK41 => ?_)
      refine w_seq (fun K44 hK43 => ?_)
      refine w_region ?_
      refine w_pure want_none (y_move (v := .slice _ _ _) rfl rfl) rfl ?_
      refine w_pure want_none (y_move (v := .int _ _) rfl rfl) rfl ?_
      refine w_pure want_none (y_indexS Try.underlying27 Try.sizeOf3 rfl rfl rfl rfl (i := _) rfl (by omega)) rfl ?_
      refine w_pure want_none (y_load1 Try.isAgg3 hs40.tail.tail.tail rfl rfl hzl) rfl ?_
      refine w_pure want_none (y_eql rfl rfl rfl rfl) rfl ?_
      refine w_nil ?_
      refine q_then (hK43 _ _ ?_)
      refine w_cond rfl rfl (fun h45 => ?_) (fun h45 => ?_)
      ·
        try simp only [Bool.not_eq_true', Bool.not_eq_false', decide_eq_true_eq, decide_eq_false_iff_not, Int.not_lt, Int.not_le] at h45
        refine w_exit ?_
        refine q_then_exit ?_
        refine q_blk_this ?_
        refine q_then (hK25 _ _ ?_)
        refine w_region ?_
        refine w_pure want_none (y_move (v := .int _ _) rfl rfl) rfl ?_
        refine w_pure want_none (y_add rfl rfl rfl rfl (by omega) (by omega)) rfl ?_
        refine w_pure want_none (y_assign (v := .int _ _) rfl rfl) rfl ?_
        refine w_nil ?_
        refine q_then (hN17 _ _ (Nx.intro (p.farms.length - (i + 1)) (by omega) (by repeat (first | exact agree_mix | refine agree_upd rfl ?_ | refine agree_updL rfl ?_ _ | refine agree_mixin rfl ?_)) ?_))
        first
          | exact ⟨i + 1, t, (by rw [trU_never hi2 (by assumption), ht]), rfl, by omega, rfl, hs40.tail⟩
          | exact ⟨i + 1, (t.1 + ownH p.farms[i] (turnOf x i), t.2), (by rw [trU_fresh hi2 (by assumption) (by assumption), ht]), rfl, by omega, rfl, hs40.tail⟩
          | exact ⟨i + 1, (t.1, t.2 + ownH p.farms[i] (turnOf x i)), (by rw [trU_vain hi2 (by assumption) (by assumption), ht]), rfl, by omega, rfl, hs40.tail⟩
      ·
        try simp only [Bool.not_eq_true', Bool.not_eq_false', decide_eq_true_eq, decide_eq_false_iff_not, Int.not_lt, Int.not_le] at h45
        refine w_skip ?_
        refine q_then (hK41 _ _ ?_)
        refine w_seq (fun K47 hK46 => ?_)
        refine w_draw [] [(0, 0), (1, 1), (2, 0), (3, 0), (4, 1), (5, 0), (6, 0), (7, 0), (8, 1), (9, 0), (10, 0), (11, 1), (12, 0), (13, 0), (14, 2)] Try_mo (by kernel_rfl) hs40 (fun w48 hs49 => ?_)
        refine d_any rfl want_none rfl (fun _ => (y_fieldAddr (o := 3) (i := 2) Try.underlying26 rfl Try.sizeOf24 rfl rfl rfl)) ?_
        refine d_take rfl want_none rfl hs49 (fun _ hq => (y_load1 Try.isAgg24 hq rfl rfl (ats_own (i := 2) (vs := [_]) rfl rfl))) ?_
        refine d_any rfl want_none rfl (fun _ => (y_move (v := .int _ _) rfl rfl)) ?_
        refine d_any rfl want_none rfl (fun _ => (y_indexS Try.underlying24 Try.sizeOf60 rfl rfl rfl rfl (i := _) rfl (by omega))) ?_
        refine d_take rfl want_none rfl hs49 (fun _ hq => (y_loadN (vs := [_, _, _, _, _, _]) Try.isAgg60 Try.sizeOf60 hq.tail.tail.tail rfl rfl hx)) ?_
        refine d_any rfl want_none rfl (fun _ => (y_move (v := .slice _ _ _) rfl rfl)) ?_
        refine d_any rfl want_none rfl (fun _ => (y_move (v := .int _ _) rfl rfl)) ?_
        refine d_any rfl want_none rfl (fun _ => (y_indexS Try.underlying27 Try.sizeOf3 rfl rfl rfl rfl (i := _) rfl (by omega))) ?_
        refine d_take rfl want_none rfl hs49 (fun _ hq => (y_load1 Try.isAgg3 hq.tail.tail.tail rfl rfl hzl)) ?_
        refine d_any rfl want_none rfl (fun _ => (y_fieldAddr (o := 1) (i := 1) Try.underlying26 rfl Try.sizeOf23 rfl rfl rfl)) ?_
        refine d_any rfl want_none rfl (fun _ => (y_fieldAddr (o := 0) (i := 0) Try.underlying23 rfl Try.sizeOf3 rfl rfl rfl)) ?_
        refine d_take rfl want_none rfl hs49 (fun _ hq => (y_load1 Try.isAgg3 hq rfl rfl (ats_own (i := 2) (vs := [_]) rfl rfl))) ?_
        refine d_any rfl want_none rfl (fun _ => (y_move (v := .int _ _) rfl rfl)) ?_
        refine d_any rfl want_none rfl (fun _ => (y_add rfl rfl rfl rfl (by omega) (by omega))) ?_
        refine d_eff rfl ?_
        refine w_call want_none Try.call71 rfl rfl rfl rfl (c71 _ _ _ hfo3 (by omega) (by omega) (by omega) (by omega) hs49) ?_
        rintro _ w51 ⟨rfl, hs52⟩
        refine w_nil ?_
        refine qn ⟨hs52, ?_⟩
        refine d_nil ?_
        refine q_then (hK46 _ _ ?_)
        refine w_cond rfl rfl (fun h53 => ?_) (fun h53 => ?_)
        ·
          try simp only [Bool.not_eq_true', Bool.not_eq_false', decide_eq_true_eq, decide_eq_false_iff_not, Int.not_lt, Int.not_le] at h53
          refine w_region ?_
          refine w_pure want_none (y_move (v := .int _ _) rfl rfl) rfl ?_
          refine w_pure want_none (y_move (v := .int _ _) rfl rfl) rfl ?_
          refine w_pure want_none (y_add rfl rfl rfl rfl (by omega) (by omega)) rfl ?_
          refine w_pure want_none (y_assign (v := .int _ _) rfl rfl) rfl ?_
          refine w_nil ?_
          refine q_blk_normal ?_
          refine q_then (hK25 _ _ ?_)
          refine w_region ?_
          refine w_pure want_none (y_move (v := .int _ _) rfl rfl) rfl ?_
          refine w_pure want_none (y_add rfl rfl rfl rfl (by omega) (by omega)) rfl ?_
          refine w_pure want_none (y_assign (v := .int _ _) rfl rfl) rfl ?_
          refine w_nil ?_
          refine q_then (hN17 _ _ (Nx.intro (p.farms.length - (i + 1)) (by omega) (by repeat (first | exact agree_mix | refine agree_upd rfl ?_ | refine agree_updL rfl ?_ _ | refine agree_mixin rfl ?_)) ?_))
          first
            | exact ⟨i + 1, t, (by rw [trU_never hi2 (by assumption), ht]), rfl, by omega, rfl, hs52.tail⟩
            | exact ⟨i + 1, (t.1 + ownH p.farms[i] (turnOf x i), t.2), (by rw [trU_fresh hi2 (by assumption) (by assumption), ht]), rfl, by omega, rfl, hs52.tail⟩
            | exact ⟨i + 1, (t.1, t.2 + ownH p.farms[i] (turnOf x i)), (by rw [trU_vain hi2 (by assumption) (by assumption), ht]), rfl, by omega, rfl, hs52.tail⟩
        ·
          try simp only [Bool.not_eq_true', Bool.not_eq_false', decide_eq_true_eq, decide_eq_false_iff_not, Int.not_lt, Int.not_le] at h53
          refine w_region ?_
          refine w_pure want_none (y_move (v := .int _ _) rfl rfl) rfl ?_
          refine w_pure want_none (y_move (v := .int _ _) rfl rfl) rfl ?_
          refine w_pure want_none (y_add rfl rfl rfl rfl (by omega) (by omega)) rfl ?_
          refine w_pure want_none (y_assign (v := .int _ _) rfl rfl) rfl ?_
          refine w_nil ?_
          refine q_blk_normal ?_
          refine q_then (hK25 _ _ ?_)
          refine w_region ?_
          refine w_pure want_none (y_move (v := .int _ _) rfl rfl) rfl ?_
          refine w_pure want_none (y_add rfl rfl rfl rfl (by omega) (by omega)) rfl ?_
          refine w_pure want_none (y_assign (v := .int _ _) rfl rfl) rfl ?_
          refine w_nil ?_
          refine q_then (hN17 _ _ (Nx.intro (p.farms.length - (i + 1)) (by omega) (by repeat (first | exact agree_mix | refine agree_upd rfl ?_ | refine agree_updL rfl ?_ _ | refine agree_mixin rfl ?_)) ?_))
          first
            | exact ⟨i + 1, t, (by rw [trU_never hi2 (by assumption), ht]), rfl, by omega, rfl, hs52.tail⟩
            | exact ⟨i + 1, (t.1 + ownH p.farms[i] (turnOf x i), t.2), (by rw [trU_fresh hi2 (by assumption) (by assumption), ht]), rfl, by omega, rfl, hs52.tail⟩
            | exact ⟨i + 1, (t.1, t.2 + ownH p.farms[i] (turnOf x i)), (by rw [trU_vain hi2 (by assumption) (by assumption), ht]), rfl, by omega, rfl, hs52.tail⟩
    ·
      try simp only [Bool.not_eq_true', Bool.not_eq_false', decide_eq_true_eq, decide_eq_false_iff_not, Int.not_lt, Int.not_le] at h24
      refine w_exit ?_
      refine q_then_exit ?_
      refine q_then_exit ?_
      refine q_blk_this ?_
      refine q_then (hK13 _ _ ?_)
      refine w_seq (fun K55 hK54 => ?_)
      refine w_region ?_
      refine w_pure want_none (y_move (v := .int _ _) rfl rfl) rfl ?_
      refine w_pure want_none (y_move (v := .int _ _) rfl rfl) rfl ?_
      refine w_pure want_none (y_move (v := .int _ _) rfl rfl) rfl ?_
      refine w_pure want_none (y_assign (v := .int _ _) rfl rfl) rfl ?_
      refine w_pure want_none (y_assign (v := .int _ _) rfl rfl) rfl ?_
      refine w_pure want_none (y_assign (v := .int _ _) rfl rfl) rfl ?_
      refine w_nil ?_
      refine q_then (hK54 _ _ ?_)
      refine w_ret ?_
      refine q_ret (l := [.tmp 6, .tmp 7, .tmp 8]) (vs := [_, _, _]) rfl ⟨⟨rfl, show _ = (.int _ _ : Value) from rfl⟩, ⟨rfl, show _ = (.int _ _ : Value) from rfl⟩, ⟨rfl, show _ = (.int _ _ : Value) from rfl⟩, trivial⟩ ?_
      have hil : i = p.farms.length := by omega
      subst hil
      exact ⟨by rw [ht]; rfl, hs.tail.tail⟩

end Go.Proofs
