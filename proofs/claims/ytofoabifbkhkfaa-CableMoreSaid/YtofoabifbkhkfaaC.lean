/- Walks of this seat, printed by gen.py over the engine: what each function returns, in whatever world. No conditions but those of each contract. -/
import Derived.Test.YtofoabifbkhkfaaB
import Derived.Test.YtofoabifbkhkfaaCSpec2
set_option linter.unusedVariables false
set_option linter.unusedSimpArgs false
set_option maxRecDepth 20000
namespace Go.Proofs
open Go.Rt
attribute [local irreducible] WL WC Con Yd At Ats Sl Agree DW
theorem Try_C_fb0 (x0 : Int) (w : World) : (Instr.buildSlice 27 1 [(0, .int .i64 x0)].toArray).run Try.prog w = .ok (.slice (some ⟨w.heap.size, 0, none⟩) 1 1) (w.alloc (Go.Rt.blk 3 [.int .i64 x0])) := by kernel_rfl
theorem Try_C_fb1 (x0 : Int) (x1 : Int) (w : World) : (Instr.buildSlice 27 2 [(0, .int .i64 x0), (1, .int .i64 x1)].toArray).run Try.prog w = .ok (.slice (some ⟨w.heap.size, 0, none⟩) 2 2) (w.alloc (Go.Rt.blk 3 [.int .i64 x0, .int .i64 x1])) := by kernel_rfl
theorem Try_C_fb2 (x0 : Int) (x1 : Go.Fn) (a1 c1 : Array Value) (w : World) : (Instr.build 76 [(0, .int .i64 x0), (1, .func x1 a1 c1)].toArray).run Try.prog w = .ok (.agg #[.int .i64 x0, .func x1 a1 c1]) w := by kernel_rfl
theorem Try_C_fb3 (x0 : Int) (x1 : Go.Fn) (a1 c1 : Array Value) (x2 : Int) (x3 : Go.Fn) (a3 c3 : Array Value) (x4 : Int) (x5 : Go.Fn) (a5 c5 : Array Value) (x6 : Int) (x7 : Go.Fn) (a7 c7 : Array Value) (w : World) : (Instr.buildSlice 72 4 [(0, .agg #[.int .i64 x0, .func x1 a1 c1]), (1, .agg #[.int .i64 x2, .func x3 a3 c3]), (2, .agg #[.int .i64 x4, .func x5 a5 c5]), (3, .agg #[.int .i64 x6, .func x7 a7 c7])].toArray).run Try.prog w = .ok (.slice (some ⟨w.heap.size, 0, none⟩) 4 4) (w.alloc (Go.Rt.blk 76 [.int .i64 x0, .func x1 a1 c1, .int .i64 x2, .func x3 a3 c3, .int .i64 x4, .func x5 a5 c5, .int .i64 x6, .func x7 a7 c7])) := by kernel_rfl
theorem sl_farm {w0 : World} {F : List (Nat × Obj)} {a : Option Addr} {l : List Farm} {i : Nat} (h : Sl w0 F a 6 (rows l)) (hi : i < l.length) :
    ∃ b off, a = some ⟨b, off, none⟩ ∧ Ats w0 F b (off + i * 6) l[i].cells := by
  obtain ⟨b, off, ha, _, hat⟩ := h.at (i := i) (row := l[i].cells) (by simp [rows, hi])
  exact ⟨b, off, ha, hat⟩
theorem any_takeF {l : List Farm} {p : Farm → Bool} {i : Nat} (h : (l.take i).any p = false) (hi : i < l.length) (hp : p l[i] = false) : (l.take (i + 1)).any p = false := by
  rw [List.take_succ_eq_append_getElem hi, List.any_append, h]; simp [hp]
theorem c52 {w0 w : World} {F : List (Nat × Obj)} (f : Farm) (hs : St w0 w F) :
  Con Try.prog 52 [.agg f.cells.toArray] w fun v w' => v = .int .i64 (farmErr f) ∧ St w0 w' F := by
  refine con_of_wc (n := 24) Try.func52 rfl rfl (Nat.le_of_ble_eq_true rfl) ?_
  refine w_seq (fun K2 hK1 => ?_)
  refine w_region ?_
  refine w_box (v := .agg #[.string _, .int _ _, .int _ _, .int _ _, .int _ _, .int _ _]) (cs := [_, _, _, _, _, _]) want_none rfl rfl rfl hs (fun b3 w4 hs5 => ?_)
  refine w_pure want_none (y_assign (v := _) rfl rfl) rfl ?_
  refine w_nil ?_
  refine q_then (hK1 _ _ ?_)
  refine w_seq (fun K7 hK6 => ?_)
  refine w_seq (fun K9 hK8 => ?_)
  refine w_region ?_
  refine w_pure want_none (y_fieldAddr (o := 1) (i := 1) Try.underlying60 rfl Try.sizeOf3 rfl rfl rfl) rfl ?_
  refine w_pure want_none (y_load1 Try.isAgg3 hs5 rfl rfl (ats_own (i := 0) (vs := [_]) rfl rfl)) rfl ?_
  refine w_call want_none Try.call45 rfl rfl rfl rfl (c45 _ _ _ hs5) ?_
  rintro _ w11 ⟨rfl, hs12⟩
  refine w_pure want_none (y_not rfl rfl) rfl ?_
  refine w_pure want_none (y_move (v := .bool _) rfl rfl) rfl ?_
  refine w_split (fun h13 => ?_) (fun h13 => ?_)
  ·
    try simp only [Bool.not_eq_true', Bool.not_eq_false', decide_eq_true_eq, decide_eq_false_iff_not, Int.not_lt, Int.not_le] at h13
    refine w_skipop rfl rfl rfl ?_
    refine w_skipop rfl rfl rfl ?_
    refine w_skipop rfl rfl rfl ?_
    refine w_skipop rfl rfl rfl ?_
    refine w_pure want_none (y_pickT (v := _) rfl rfl rfl rfl) rfl ?_
    refine w_pure want_none (y_move (v := .bool _) rfl rfl) rfl ?_
    refine w_skipop rfl rfl rfl ?_
    refine w_skipop rfl rfl rfl ?_
    refine w_skipop rfl rfl rfl ?_
    refine w_skipop rfl rfl rfl ?_
    refine w_skipop rfl rfl rfl ?_
    refine w_skipop rfl rfl rfl ?_
    refine w_pure want_none (y_pickT (v := _) rfl rfl rfl rfl) rfl ?_
    refine w_nil ?_
    refine q_then (hK8 _ _ ?_)
    refine w_condT rfl rfl ?_
    refine w_seq (fun K15 hK14 => ?_)
    refine w_region ?_
    refine w_pure want_none (y_assign (v := _) rfl rfl) rfl ?_
    refine w_nil ?_
    refine q_then (hK14 _ _ ?_)
    refine w_ret ?_
    refine q_then_ret ?_
    refine q_ret (l := [.tmp 2]) (vs := [_]) rfl ⟨⟨rfl, show _ = (.int _ _ : Value) from rfl⟩, trivial⟩ ?_
    exact ⟨congrArg (Value.int .i64) (by unfold farmErr out; simp only [Bool.or_eq_true, decide_eq_true_eq]; split <;> first | rfl | omega), hs12.tail⟩
  ·
    try simp only [Bool.not_eq_true', Bool.not_eq_false', decide_eq_true_eq, decide_eq_false_iff_not, Int.not_lt, Int.not_le] at h13
    refine w_pure (want_yes rfl rfl rfl) (y_fieldAddr (o := 2) (i := 2) Try.underlying60 rfl Try.sizeOf3 rfl rfl rfl) rfl ?_
    refine w_pure (want_yes rfl rfl rfl) (y_load1 Try.isAgg3 hs12 rfl rfl (ats_own (i := 0) (vs := [_]) rfl rfl)) rfl ?_
    refine w_call (want_yes rfl rfl rfl) Try.call45 rfl rfl rfl rfl (c45 _ _ _ hs12) ?_
    rintro _ w17 ⟨rfl, hs18⟩
    refine w_pure (want_yes rfl rfl rfl) (y_not rfl rfl) rfl ?_
    refine w_pure want_none (y_pickF (v := .bool _) rfl rfl rfl rfl) rfl ?_
    refine w_pure want_none (y_move (v := .bool _) rfl rfl) rfl ?_
    refine w_split (fun h19 => ?_) (fun h19 => ?_)
    ·
      try simp only [Bool.not_eq_true', Bool.not_eq_false', decide_eq_true_eq, decide_eq_false_iff_not, Int.not_lt, Int.not_le] at h19
      refine w_skipop rfl rfl rfl ?_
      refine w_skipop rfl rfl rfl ?_
      refine w_skipop rfl rfl rfl ?_
      refine w_skipop rfl rfl rfl ?_
      refine w_skipop rfl rfl rfl ?_
      refine w_skipop rfl rfl rfl ?_
      refine w_pure want_none (y_pickT (v := _) rfl rfl rfl rfl) rfl ?_
      refine w_nil ?_
      refine q_then (hK8 _ _ ?_)
      refine w_condT rfl rfl ?_
      refine w_seq (fun K21 hK20 => ?_)
      refine w_region ?_
      refine w_pure want_none (y_assign (v := _) rfl rfl) rfl ?_
      refine w_nil ?_
      refine q_then (hK20 _ _ ?_)
      refine w_ret ?_
      refine q_then_ret ?_
      refine q_ret (l := [.tmp 2]) (vs := [_]) rfl ⟨⟨rfl, show _ = (.int _ _ : Value) from rfl⟩, trivial⟩ ?_
      exact ⟨congrArg (Value.int .i64) (by unfold farmErr out; simp only [Bool.or_eq_true, decide_eq_true_eq]; split <;> first | rfl | omega), hs18.tail⟩
    ·
      try simp only [Bool.not_eq_true', Bool.not_eq_false', decide_eq_true_eq, decide_eq_false_iff_not, Int.not_lt, Int.not_le] at h19
      refine w_pure (want_yes rfl rfl rfl) (y_fieldAddr (o := 3) (i := 3) Try.underlying60 rfl Try.sizeOf3 rfl rfl rfl) rfl ?_
      refine w_pure (want_yes rfl rfl rfl) (y_load1 Try.isAgg3 hs18 rfl rfl (ats_own (i := 0) (vs := [_]) rfl rfl)) rfl ?_
      refine w_pure (want_yes rfl rfl rfl) (y_fieldAddr (o := 1) (i := 1) Try.underlying60 rfl Try.sizeOf3 rfl rfl rfl) rfl ?_
      refine w_pure (want_yes rfl rfl rfl) (y_load1 Try.isAgg3 hs18 rfl rfl (ats_own (i := 0) (vs := [_]) rfl rfl)) rfl ?_
      refine w_call (want_yes rfl rfl rfl) Try.call45 rfl rfl rfl rfl (c45 _ _ _ hs18) ?_
      rintro _ w23 ⟨rfl, hs24⟩
      refine w_pure (want_yes rfl rfl rfl) (y_not rfl rfl) rfl ?_
      refine w_pure want_none (y_pickF (v := .bool _) rfl rfl rfl rfl) rfl ?_
      refine w_nil ?_
      refine q_then (hK8 _ _ ?_)
      refine w_cond rfl rfl (fun h25 => ?_) (fun h25 => ?_)
      ·
        try simp only [Bool.not_eq_true', Bool.not_eq_false', decide_eq_true_eq, decide_eq_false_iff_not, Int.not_lt, Int.not_le] at h25
        refine w_seq (fun K27 hK26 => ?_)
        refine w_region ?_
        refine w_pure want_none (y_assign (v := _) rfl rfl) rfl ?_
        refine w_nil ?_
        refine q_then (hK26 _ _ ?_)
        refine w_ret ?_
        refine q_then_ret ?_
        refine q_ret (l := [.tmp 2]) (vs := [_]) rfl ⟨⟨rfl, show _ = (.int _ _ : Value) from rfl⟩, trivial⟩ ?_
        exact ⟨congrArg (Value.int .i64) (by unfold farmErr out; simp only [Bool.or_eq_true, decide_eq_true_eq]; split <;> first | rfl | omega), hs24.tail⟩
      ·
        try simp only [Bool.not_eq_true', Bool.not_eq_false', decide_eq_true_eq, decide_eq_false_iff_not, Int.not_lt, Int.not_le] at h25
        refine w_skip ?_
        refine q_then (hK6 _ _ ?_)
        refine w_seq (fun K29 hK28 => ?_)
        refine w_region ?_
        refine w_pure want_none (y_fieldAddr (o := 4) (i := 4) Try.underlying60 rfl Try.sizeOf23 rfl rfl rfl) rfl ?_
        refine w_pure want_none (y_loadN (vs := [_, _]) Try.isAgg23 Try.sizeOf23 hs24 rfl rfl (ats_own (i := 0) (vs := [_, _]) rfl rfl)) rfl ?_
        refine w_call want_none Try.call50 rfl rfl rfl rfl (c50 _ _ _ _ hs24) ?_
        rintro _ w31 ⟨rfl, hs32⟩
        refine w_pure want_none (y_assign (v := .int _ _) rfl rfl) rfl ?_
        refine w_nil ?_
        refine q_then (hK28 _ _ ?_)
        refine w_ret ?_
        refine q_ret (l := [.tmp 2]) (vs := [_]) rfl ⟨⟨rfl, show _ = (.int _ _ : Value) from rfl⟩, trivial⟩ ?_
        exact ⟨congrArg (Value.int .i64) (by unfold farmErr out; simp only [Bool.or_eq_true, decide_eq_true_eq]; split <;> first | rfl | omega), hs32.tail⟩

theorem c79 {w0 w : World} {F : List (Nat × Obj)} (f : Farm) (b1 b2 : Nat) (a : Option Addr) (c : Nat) (l : List Farm) (i : Nat) (hi : i < l.length) (h1 : Ats w0 F b1 0 [.slice a l.length c]) (h2 : Ats w0 F b2 0 [.int .i64 (i : Int)]) (ha : Sl w0 F a 6 (rows l)) (hs : St w0 w F) :
  Con Try.prog 79 [.agg f.cells.toArray, .pointer (some ⟨b1, 0, none⟩), .pointer (some ⟨b2, 0, none⟩)] w fun v w' => v = .bool (decide (f.name = l[i].name)) ∧ St w0 w' F := by
  refine con_of_wc (n := 13) Try.func79 rfl rfl (Nat.le_of_ble_eq_true rfl) ?_
  obtain ⟨bx, ox, rfl, hx⟩ := sl_farm ha hi
  refine w_seq (fun K2 hK1 => ?_)
  refine w_region ?_
  refine w_box (v := .agg #[.string _, .int _ _, .int _ _, .int _ _, .int _ _, .int _ _]) (cs := [_, _, _, _, _, _]) want_none rfl rfl rfl hs (fun b3 w4 hs5 => ?_)
  refine w_pure want_none (y_assign (v := _) rfl rfl) rfl ?_
  refine w_nil ?_
  refine q_then (hK1 _ _ ?_)
  refine w_seq (fun K7 hK6 => ?_)
  refine w_draw [] [(0, 0), (1, 1), (2, 1), (3, 1), (4, 0), (5, 0), (6, 1), (7, 0), (8, 0)] Try_mo (by kernel_rfl) hs5 (fun w8 hs9 => ?_)
  refine d_any rfl want_none rfl (fun _ => (y_fieldAddr (o := 0) (i := 0) Try.underlying60 rfl Try.sizeOf9 rfl rfl rfl)) ?_
  refine d_take rfl want_none rfl hs9 (fun _ hq => (y_load1 Try.isAgg9 hq rfl rfl (ats_own (i := 0) (vs := [_]) rfl rfl))) ?_
  refine d_take rfl want_none rfl hs9 (fun _ hq => (y_load1 Try.isAgg24 hq.tail rfl rfl h1)) ?_
  refine d_take rfl want_none rfl hs9 (fun _ hq => (y_load1 Try.isAgg3 hq.tail rfl rfl h2)) ?_
  refine d_any rfl want_none rfl (fun _ => (y_indexS Try.underlying24 Try.sizeOf60 rfl rfl rfl rfl (i := _) rfl (by omega))) ?_
  refine d_any rfl want_none rfl (fun _ => (y_fieldAddr (o := 0) (i := 0) Try.underlying60 rfl Try.sizeOf9 rfl rfl rfl)) ?_
  refine d_take rfl want_none rfl hs9 (fun _ hq => (y_load1 Try.isAgg9 hq.tail rfl rfl (show Ats _ _ _ _ [_] from Ats.part hx 0 1))) ?_
  refine d_any rfl want_none rfl (fun _ => (y_strEq rfl rfl rfl rfl)) ?_
  refine d_any rfl want_none rfl (fun _ => (y_assign (v := .bool _) rfl rfl)) ?_
  refine d_nil ?_
  refine q_then (hK6 _ _ ?_)
  refine w_ret ?_
  refine q_ret (l := [.tmp 4]) (vs := [_]) rfl ⟨⟨rfl, show _ = (.bool _ : Value) from rfl⟩, trivial⟩ ?_
  exact ⟨rfl, hs9.tail⟩

theorem c93 {w0 w : World} {F : List (Nat × Obj)} (a : Option Addr) (l : List Farm) (c : Nat) (hla : l.length ≤ 9223372036854775807) (ha : Sl w0 F a 6 (rows l)) {fk : FuncId} (hC : CF Try.prog fk) (first captured : Array Value) (p : Farm → Bool)
    (hp : ∀ x ∈ l, ∀ w, St w0 w F → Con Try.prog fk (first.toList ++ ([.agg x.cells.toArray] ++ captured.toList)) w fun v w' => v = .bool (p x) ∧ St w0 w' F) (hs : St w0 w F) :
  Con Try.prog 93 [.slice a l.length c, .func (.func fk) first captured] w fun v w' => (∃ z, v = .int .i64 z ∧ decide (0 ≤ z) = l.any p) ∧ St w0 w' F := by
  refine con_of_wc (n := 19) Try.func93 rfl rfl (Nat.le_of_ble_eq_true rfl) ?_
  refine w_seq (fun K2 hK1 => ?_)
  refine w_region ?_
  refine w_pure want_none (y_assign (v := _) rfl rfl) rfl ?_
  refine w_nil ?_
  refine q_then (hK1 _ _ ?_)
  refine w_seq (fun K4 hK3 => ?_)
  refine w_seq (fun K6 hK5 => ?_)
  refine w_region ?_
  refine w_pure want_none (y_move (v := .slice _ _ _) rfl rfl) rfl ?_
  refine w_pure want_none (y_lenS Try.underlying24 rfl rfl) rfl ?_
  refine w_pure want_none (y_move (v := _) rfl rfl) rfl ?_
  refine w_nil ?_
  refine q_then (hK5 _ _ ?_)
  refine w_block ?_
  refine w_loop [4, 5, 8, 9, 10, 11, 12, 13, 14, 15, 16, 17, 18] [8] (fun k vs w => ∃ i : Nat, vs = [.int .i64 i] ∧ i ≤ l.length ∧ k = l.length - i ∧ (l.take i).any p = false ∧ St w0 w F) (l.length) ?_ ?_
  ·
    exact ⟨0, rfl, by omega, by omega, by simp, hs⟩
  ·
    intro k vs μ w9 hI K8 hN7
    obtain ⟨i, rfl, hia, rfl, hpre, hs⟩ := hI
    refine w_seq (fun K11 hK10 => ?_)
    refine w_region ?_
    refine w_pure want_none (y_lss rfl rfl rfl rfl) rfl ?_
    refine w_nil ?_
    refine q_then (hK10 _ _ ?_)
    refine w_seq (fun K13 hK12 => ?_)
    refine w_cond rfl rfl (fun h14 => ?_) (fun h14 => ?_)
    ·
      try simp only [Bool.not_eq_true', Bool.not_eq_false', decide_eq_true_eq, decide_eq_false_iff_not, Int.not_lt, Int.not_le] at h14
      refine w_skip ?_
      refine q_then (hK12 _ _ ?_)
      refine w_seq (fun K16 hK15 => ?_)
      refine w_block ?_
      refine w_seq (fun K18 hK17 => ?_)
      refine w_region ?_
      refine w_pure want_none (y_move (v := .int _ _) rfl rfl) rfl ?_
      refine w_pure want_none (y_assign (v := .int _ _) rfl rfl) rfl ?_
      refine w_nil ?_
      refine q_then (hK17 _ _ ?_)
      refine w_seq (fun K20 hK19 => ?_)
      have hi2 : i < l.length := by omega
      obtain ⟨bx, ox, rfl, hx⟩ := sl_farm ha hi2
      refine w_region ?_
      refine w_pure want_none (y_move (v := .func _ _ _) rfl rfl) rfl ?_
      refine w_pure want_none (y_move (v := .slice _ _ _) rfl rfl) rfl ?_
      refine w_pure want_none (y_move (v := .int _ _) rfl rfl) rfl ?_
      refine w_pure want_none (y_indexS Try.underlying24 Try.sizeOf60 rfl rfl rfl rfl (i := _) rfl (by omega)) rfl ?_
      refine w_pure want_none (y_loadN (vs := [_, _, _, _, _, _]) Try.isAgg60 Try.sizeOf60 hs rfl rfl hx) rfl ?_
      refine w_call want_none hC rfl rfl rfl rfl (hp _ (List.getElem_mem hi2) _ hs) ?_
      rintro _ w22 ⟨rfl, hs23⟩
      refine w_nil ?_
      refine q_then (hK19 _ _ ?_)
      refine w_cond rfl rfl (fun h24 => ?_) (fun h24 => ?_)
      ·
        try simp only [Bool.not_eq_true', Bool.not_eq_false', decide_eq_true_eq, decide_eq_false_iff_not, Int.not_lt, Int.not_le] at h24
        refine w_seq (fun K26 hK25 => ?_)
        refine w_region ?_
        refine w_pure want_none (y_move (v := .int _ _) rfl rfl) rfl ?_
        refine w_pure want_none (y_assign (v := .int _ _) rfl rfl) rfl ?_
        refine w_nil ?_
        refine q_then (hK25 _ _ ?_)
        refine w_ret ?_
        refine q_blk_ret ?_
        refine q_then_ret ?_
        refine q_then_ret ?_
        refine q_blk_ret ?_
        refine q_then_ret ?_
        refine q_ret (l := [.tmp 4]) (vs := [_]) rfl ⟨⟨rfl, show _ = (.int _ _ : Value) from rfl⟩, trivial⟩ ?_
        first
          | exact ⟨⟨-1, rfl, by have hil : i = l.length := (by omega); subst hil; rw [List.take_length] at hpre; rw [hpre]; rfl⟩, hs23⟩
          | exact ⟨⟨(i : Int), rfl, by rw [Bool.eq_iff_iff]; simp only [decide_eq_true_eq, List.any_eq_true]; exact ⟨fun _ => ⟨_, List.getElem_mem hi2, by assumption⟩, fun _ => by omega⟩⟩, hs23⟩
      ·
        try simp only [Bool.not_eq_true', Bool.not_eq_false', decide_eq_true_eq, decide_eq_false_iff_not, Int.not_lt, Int.not_le] at h24
        refine w_skip ?_
        refine q_blk_normal ?_
        refine q_then (hK15 _ _ ?_)
        refine w_region ?_
        refine w_pure want_none (y_add rfl rfl rfl rfl (by omega) (by omega)) rfl ?_
        refine w_pure want_none (y_move (v := .int _ _) rfl rfl) rfl ?_
        refine w_nil ?_
        refine q_then (hN7 _ _ (Nx.intro (l.length - (i + 1)) (by omega) (by repeat (first | exact agree_mix | refine agree_upd rfl ?_ | refine agree_updL rfl ?_ _ | refine agree_mixin rfl ?_)) ?_))
        exact ⟨i + 1, rfl, by omega, rfl, any_takeF hpre (by omega) (by assumption), hs23⟩
    ·
      try simp only [Bool.not_eq_true', Bool.not_eq_false', decide_eq_true_eq, decide_eq_false_iff_not, Int.not_lt, Int.not_le] at h14
      refine w_exit ?_
      refine q_then_exit ?_
      refine q_then_exit ?_
      refine q_blk_this ?_
      refine q_then (hK3 _ _ ?_)
      refine w_seq (fun K28 hK27 => ?_)
      refine w_region ?_
      refine w_pure want_none (y_assign (v := _) rfl rfl) rfl ?_
      refine w_nil ?_
      refine q_then (hK27 _ _ ?_)
      refine w_ret ?_
      refine q_ret (l := [.tmp 4]) (vs := [_]) rfl ⟨⟨rfl, show _ = (.int _ _ : Value) from rfl⟩, trivial⟩ ?_
      first
        | exact ⟨⟨-1, rfl, by have hil : i = l.length := (by omega); subst hil; rw [List.take_length] at hpre; rw [hpre]; rfl⟩, hs⟩
        | exact ⟨⟨(i : Int), rfl, by rw [Bool.eq_iff_iff]; simp only [decide_eq_true_eq, List.any_eq_true]; exact ⟨fun _ => ⟨_, List.getElem_mem hi2, by assumption⟩, fun _ => by omega⟩⟩, hs⟩

theorem c78 {w0 w : World} {F : List (Nat × Obj)} (a : Option Addr) (l : List Farm) (c : Nat) (hla : l.length ≤ 9223372036854775807) (ha : Sl w0 F a 6 (rows l)) {fk : FuncId} (hC : CF Try.prog fk) (first captured : Array Value) (p : Farm → Bool)
    (hp : ∀ x ∈ l, ∀ w, St w0 w F → Con Try.prog fk (first.toList ++ ([.agg x.cells.toArray] ++ captured.toList)) w fun v w' => v = .bool (p x) ∧ St w0 w' F) (hs : St w0 w F) :
  Con Try.prog 78 [.slice a l.length c, .func (.func fk) first captured] w fun v w' => v = .bool (l.any p) ∧ St w0 w' F := by
  refine con_of_wc (n := 9) Try.func78 rfl rfl (Nat.le_of_ble_eq_true rfl) ?_
  refine w_seq (fun K2 hK1 => ?_)
  refine w_region ?_
  refine w_pure want_none (y_assign (v := _) rfl rfl) rfl ?_
  refine w_nil ?_
  refine q_then (hK1 _ _ ?_)
  refine w_seq (fun K4 hK3 => ?_)
  refine w_region ?_
  refine w_pure want_none (y_move (v := .slice _ _ _) rfl rfl) rfl ?_
  refine w_pure want_none (y_move (v := .func _ _ _) rfl rfl) rfl ?_
  refine w_call want_none Try.call93 rfl rfl rfl rfl (c93 _ _ _ hla ha hC _ _ p hp hs) ?_
  rintro _ w6 ⟨⟨z, rfl, hz⟩, hs7⟩
  refine w_pure want_none (y_geq rfl rfl rfl rfl) rfl ?_
  refine w_pure want_none (y_assign (v := .bool _) rfl rfl) rfl ?_
  refine w_nil ?_
  refine q_then (hK3 _ _ ?_)
  refine w_ret ?_
  refine q_ret (l := [.tmp 4]) (vs := [_]) rfl ⟨⟨rfl, show _ = (.bool _ : Value) from rfl⟩, trivial⟩ ?_
  exact ⟨congrArg Value.bool hz, hs7⟩

theorem c75 {w0 w : World} {F : List (Nat × Obj)} (a : Option Addr) (c : Nat) (l : List Farm) (hl3 : l.length ≤ 9223372036854775807) (hc : l.length ≤ c) (ha : Sl w0 F a 6 (rows l)) (i : Nat) (hi : i < l.length) (hnm : l[i].name.size ≤ 9223372036854775807) (hs : St w0 w F) :
  Con Try.prog 75 [.slice a l.length c, .int .i64 (i : Int)] w fun v w' => v = .bool (flawIs (names (l.take i)) l[i] 0) ∧ St w0 w' F := by
  refine con_of_wc (n := 12) Try.func75 rfl rfl (Nat.le_of_ble_eq_true rfl) ?_
  obtain ⟨bx, ox, rfl, hx⟩ := sl_farm ha hi
  refine w_seq (fun K2 hK1 => ?_)
  refine w_region ?_
  refine w_pure want_none (y_assign (v := _) rfl rfl) rfl ?_
  refine w_nil ?_
  refine q_then (hK1 _ _ ?_)
  refine w_seq (fun K4 hK3 => ?_)
  refine w_region ?_
  refine w_pure want_none (y_move (v := .slice _ _ _) rfl rfl) rfl ?_
  refine w_pure want_none (y_move (v := .int _ _) rfl rfl) rfl ?_
  refine w_pure want_none (y_indexS Try.underlying24 Try.sizeOf60 rfl rfl rfl rfl (i := _) rfl (by omega)) rfl ?_
  refine w_pure want_none (y_fieldAddr (o := 0) (i := 0) Try.underlying60 rfl Try.sizeOf9 rfl rfl rfl) rfl ?_
  refine w_pure want_none (y_load1 Try.isAgg9 hs rfl rfl (show Ats _ _ _ _ [_] from Ats.part hx 0 1)) rfl ?_
  refine w_call want_none Try.call76 rfl rfl rfl rfl (c76 _ (by omega) hs) ?_
  rintro _ w6 ⟨rfl, hs7⟩
  refine w_pure want_none (y_not rfl rfl) rfl ?_
  refine w_pure want_none (y_assign (v := .bool _) rfl rfl) rfl ?_
  refine w_nil ?_
  refine q_then (hK3 _ _ ?_)
  refine w_ret ?_
  refine q_ret (l := [.tmp 4]) (vs := [_]) rfl ⟨⟨rfl, show _ = (.bool _ : Value) from rfl⟩, trivial⟩ ?_
  exact ⟨rfl, hs7⟩

theorem sl_take {w0 : World} {F : List (Nat × Obj)} {a : Option Addr} {l : List Farm} {i c : Nat} (h : Sl w0 F a 6 (rows l)) (hi : i ≤ l.length) (hc : l.length ≤ c) : Sl w0 F (if c = 0 then a else a.map (·.add (0 * 6))) 6 (rows (l.take i)) := by
  have := h.cut (l' := 0) (h' := i) (c := c) (by omega) (by simpa [rows] using hi) (by simpa [rows] using hc)
  simpa [rows, List.map_take] using this
theorem has_names (l : List Farm) (s : ByteArray) : (l.any fun x => decide (x.name = s)) = has (names l) s := by
  simp [has, names, List.any_map, Function.comp_def]
theorem c77 {w0 w : World} {F : List (Nat × Obj)} (a : Option Addr) (c : Nat) (l : List Farm) (hl3 : l.length ≤ 9223372036854775807) (hc : l.length ≤ c) (ha : Sl w0 F a 6 (rows l)) (i : Nat) (hi : i < l.length) (hs : St w0 w F) :
  Con Try.prog 77 [.slice a l.length c, .int .i64 (i : Int)] w fun v w' => v = .bool (flawIs (names (l.take i)) l[i] 1) ∧ St w0 w' F := by
  refine con_of_wc (n := 10) Try.func77 rfl rfl (Nat.le_of_ble_eq_true rfl) ?_
  refine w_seq (fun K2 hK1 => ?_)
  refine w_region ?_
  refine w_box (v := .slice _ _ _) (cs := [_]) want_none rfl rfl rfl hs (fun b3 w4 hs5 => ?_)
  refine w_box (v := .int _ _) (cs := [_]) want_none rfl rfl rfl hs5 (fun b6 w7 hs8 => ?_)
  refine w_pure want_none (y_assign (v := _) rfl rfl) rfl ?_
  refine w_nil ?_
  refine q_then (hK1 _ _ ?_)
  refine w_seq (fun K10 hK9 => ?_)
  refine w_region ?_
  refine w_pure want_none (y_load1 Try.isAgg24 hs8 rfl rfl (ats_own (i := 1) (vs := [_]) rfl rfl)) rfl ?_
  refine w_pure want_none (y_load1 Try.isAgg3 hs8 rfl rfl (ats_own (i := 0) (vs := [_]) rfl rfl)) rfl ?_
  refine w_pure want_none (y_sliceS (l' := 0) (h' := i) Try.underlying24 Try.sizeOf60 rfl rfl rfl ⟨rfl, _, _, rfl, rfl⟩ (by omega) (by omega)) rfl ?_
  refine w_pure want_none (y_makeFunc (fv := []) (cv := [_, _]) rfl rfl rfl rfl) rfl ?_
  refine w_call want_none Try.call78 rfl rfl rfl rfl ((show Con Try.prog 78 [.slice (if c = 0 then a else a.map (·.add (0 * 6))) (i - 0) (c - 0), _] _ _ from by rw [Nat.sub_zero, show (i = (l.take i).length) from by rw [List.length_take]; omega]; exact c78 _ (l.take i) _ (by rw [List.length_take]; omega) (sl_take ha.cons.cons (by omega) hc) Try.call79 _ _ (fun x => decide (x.name = l[i].name)) (fun x _ w hs => c79 _ _ _ _ _ _ _ hi (ats_own (i := 1) (vs := [_]) rfl rfl) (ats_own (i := 0) (vs := [_]) rfl rfl) ha.cons.cons hs) hs8)) ?_
  rintro _ w12 ⟨rfl, hs13⟩
  refine w_pure want_none (y_assign (v := .bool _) rfl rfl) rfl ?_
  refine w_nil ?_
  refine q_then (hK9 _ _ ?_)
  refine w_ret ?_
  refine q_ret (l := [.tmp 4]) (vs := [_]) rfl ⟨⟨rfl, show _ = (.bool _ : Value) from rfl⟩, trivial⟩ ?_
  exact ⟨congrArg Value.bool (has_names _ _), hs13.tail.tail⟩

theorem c80 {w0 w : World} {F : List (Nat × Obj)} (a : Option Addr) (c : Nat) (l : List Farm) (hl3 : l.length ≤ 9223372036854775807) (hc : l.length ≤ c) (ha : Sl w0 F a 6 (rows l)) (i : Nat) (hi : i < l.length) (hs : St w0 w F) :
  Con Try.prog 80 [.slice a l.length c, .int .i64 (i : Int)] w fun v w' => v = .bool (flawIs (names (l.take i)) l[i] 2) ∧ St w0 w' F := by
  refine con_of_wc (n := 38) Try.func80 rfl rfl (Nat.le_of_ble_eq_true rfl) ?_
  obtain ⟨bx, ox, rfl, hx⟩ := sl_farm ha hi
  refine w_seq (fun K2 hK1 => ?_)
  refine w_region ?_
  refine w_pure want_none (y_assign (v := _) rfl rfl) rfl ?_
  refine w_nil ?_
  refine q_then (hK1 _ _ ?_)
  refine w_seq (fun K4 hK3 => ?_)
  refine w_region ?_
  refine w_pure want_none (y_move (v := .slice _ _ _) rfl rfl) rfl ?_
  refine w_pure want_none (y_move (v := .int _ _) rfl rfl) rfl ?_
  refine w_pure want_none (y_indexS Try.underlying24 Try.sizeOf60 rfl rfl rfl rfl (i := _) rfl (by omega)) rfl ?_
  refine w_pure want_none (y_loadN (vs := [_, _, _, _, _, _]) Try.isAgg60 Try.sizeOf60 hs rfl rfl hx) rfl ?_
  refine w_alloc (cs := [_, _, _, _, _, _]) want_none Try.zeroValue60 rfl hs (fun b5 w6 hs7 => ?_)
  refine w_store (i := 0) (v := .agg #[.string _, .int _ _, .int _ _, .int _ _, .int _ _, .int _ _]) (vs := [_, _, _, _, _, _]) want_none Try.sizeOf60 rfl rfl rfl rfl rfl (by simp [Value.oneCell']) hs7 rfl (Nat.le_of_ble_eq_true rfl) (fun w8 hs9 => ?_)
  refine w_nil ?_
  refine q_then (hK3 _ _ ?_)
  refine w_seq (fun K11 hK10 => ?_)
  refine w_region ?_
  refine w_pure want_none (y_fieldAddr (o := 1) (i := 1) Try.underlying60 rfl Try.sizeOf3 rfl rfl rfl) rfl ?_
  refine w_pure want_none (y_load1 Try.isAgg3 hs9 rfl rfl (ats_own (i := 0) (vs := [_]) rfl rfl)) rfl ?_
  refine w_bslice (ps := [(0, _)]) (pv := [(0, .int _ _)]) (cs := [_]) want_none rfl rfl (fun w => Try_C_fb0 _ w) hs9 (fun b12 w13 hs14 => ?_)
  refine w_call want_none Try.call48 rfl rfl rfl rfl (c48 _ _ _ [_] _ (by simp) (sl_own (i := 0) (rows := [[_]]) rfl (by simp) rfl) hs14) ?_
  rintro _ w16 ⟨rfl, hs17⟩
  refine w_pure want_none (y_move (v := .bool _) rfl rfl) rfl ?_
  refine w_split (fun h18 => ?_) (fun h18 => ?_)
  ·
    try simp only [Bool.not_eq_true', Bool.not_eq_false', decide_eq_true_eq, decide_eq_false_iff_not, Int.not_lt, Int.not_le] at h18
    refine w_skipop rfl rfl rfl ?_
    refine w_skipop rfl rfl rfl ?_
    refine w_skipop rfl rfl rfl ?_
    refine w_skipop rfl rfl rfl ?_
    refine w_pure want_none (y_pickT (v := _) rfl rfl rfl rfl) rfl ?_
    refine w_pure want_none (y_move (v := .bool _) rfl rfl) rfl ?_
    refine w_skipop rfl rfl rfl ?_
    refine w_skipop rfl rfl rfl ?_
    refine w_skipop rfl rfl rfl ?_
    refine w_skipop rfl rfl rfl ?_
    refine w_skipop rfl rfl rfl ?_
    refine w_skipop rfl rfl rfl ?_
    refine w_pure want_none (y_pickT (v := _) rfl rfl rfl rfl) rfl ?_
    refine w_pure want_none (y_move (v := .bool _) rfl rfl) rfl ?_
    refine w_skipop rfl rfl rfl ?_
    refine w_skipop rfl rfl rfl ?_
    refine w_skipop rfl rfl rfl ?_
    refine w_skipop rfl rfl rfl ?_
    refine w_skipop rfl rfl rfl ?_
    refine w_skipop rfl rfl rfl ?_
    refine w_skipop rfl rfl rfl ?_
    refine w_skipop rfl rfl rfl ?_
    refine w_pure want_none (y_pickT (v := _) rfl rfl rfl rfl) rfl ?_
    refine w_pure want_none (y_assign (v := .bool _) rfl rfl) rfl ?_
    refine w_nil ?_
    refine q_then (hK10 _ _ ?_)
    refine w_ret ?_
    refine q_ret (l := [.tmp 4]) (vs := [_]) rfl ⟨⟨rfl, show _ = (.bool _ : Value) from rfl⟩, trivial⟩ ?_
    try simp only [List.any_cons, List.any_nil, Bool.or_false, Bool.or_eq_false_iff] at h18
    exact ⟨congrArg Value.bool (by simp [flawIs, h18]), hs17.tail.tail⟩
  ·
    try simp only [Bool.not_eq_true', Bool.not_eq_false', decide_eq_true_eq, decide_eq_false_iff_not, Int.not_lt, Int.not_le] at h18
    refine w_pure (want_yes rfl rfl rfl) (y_fieldAddr (o := 2) (i := 2) Try.underlying60 rfl Try.sizeOf3 rfl rfl rfl) rfl ?_
    refine w_pure (want_yes rfl rfl rfl) (y_load1 Try.isAgg3 hs17 rfl rfl (ats_own (i := 1) (vs := [_]) rfl rfl)) rfl ?_
    refine w_bslice (ps := [(0, _)]) (pv := [(0, .int _ _)]) (cs := [_]) (want_yes rfl rfl rfl) rfl rfl (fun w => Try_C_fb0 _ w) hs17 (fun b19 w20 hs21 => ?_)
    refine w_call (want_yes rfl rfl rfl) Try.call48 rfl rfl rfl rfl (c48 _ _ _ [_] _ (by simp) (sl_own (i := 0) (rows := [[_]]) rfl (by simp) rfl) hs21) ?_
    rintro _ w23 ⟨rfl, hs24⟩
    refine w_pure want_none (y_pickF (v := .bool _) rfl rfl rfl rfl) rfl ?_
    refine w_pure want_none (y_move (v := .bool _) rfl rfl) rfl ?_
    refine w_split (fun h25 => ?_) (fun h25 => ?_)
    ·
      try simp only [Bool.not_eq_true', Bool.not_eq_false', decide_eq_true_eq, decide_eq_false_iff_not, Int.not_lt, Int.not_le] at h25
      refine w_skipop rfl rfl rfl ?_
      refine w_skipop rfl rfl rfl ?_
      refine w_skipop rfl rfl rfl ?_
      refine w_skipop rfl rfl rfl ?_
      refine w_skipop rfl rfl rfl ?_
      refine w_skipop rfl rfl rfl ?_
      refine w_pure want_none (y_pickT (v := _) rfl rfl rfl rfl) rfl ?_
      refine w_pure want_none (y_move (v := .bool _) rfl rfl) rfl ?_
      refine w_skipop rfl rfl rfl ?_
      refine w_skipop rfl rfl rfl ?_
      refine w_skipop rfl rfl rfl ?_
      refine w_skipop rfl rfl rfl ?_
      refine w_skipop rfl rfl rfl ?_
      refine w_skipop rfl rfl rfl ?_
      refine w_skipop rfl rfl rfl ?_
      refine w_skipop rfl rfl rfl ?_
      refine w_pure want_none (y_pickT (v := _) rfl rfl rfl rfl) rfl ?_
      refine w_pure want_none (y_assign (v := .bool _) rfl rfl) rfl ?_
      refine w_nil ?_
      refine q_then (hK10 _ _ ?_)
      refine w_ret ?_
      refine q_ret (l := [.tmp 4]) (vs := [_]) rfl ⟨⟨rfl, show _ = (.bool _ : Value) from rfl⟩, trivial⟩ ?_
      try simp only [List.any_cons, List.any_nil, Bool.or_false, Bool.or_eq_false_iff] at h18 h25
      exact ⟨congrArg Value.bool (by simp [flawIs, h18, h25]), hs24.tail.tail.tail⟩
    ·
      try simp only [Bool.not_eq_true', Bool.not_eq_false', decide_eq_true_eq, decide_eq_false_iff_not, Int.not_lt, Int.not_le] at h25
      refine w_pure (want_yes rfl rfl rfl) (y_fieldAddr (o := 1) (i := 1) Try.underlying60 rfl Try.sizeOf3 rfl rfl rfl) rfl ?_
      refine w_pure (want_yes rfl rfl rfl) (y_load1 Try.isAgg3 hs24 rfl rfl (ats_own (i := 2) (vs := [_]) rfl rfl)) rfl ?_
      refine w_pure (want_yes rfl rfl rfl) (y_fieldAddr (o := 3) (i := 3) Try.underlying60 rfl Try.sizeOf3 rfl rfl rfl) rfl ?_
      refine w_pure (want_yes rfl rfl rfl) (y_load1 Try.isAgg3 hs24 rfl rfl (ats_own (i := 2) (vs := [_]) rfl rfl)) rfl ?_
      refine w_bslice (ps := [(0, _)]) (pv := [(0, .int _ _)]) (cs := [_]) (want_yes rfl rfl rfl) rfl rfl (fun w => Try_C_fb0 _ w) hs24 (fun b26 w27 hs28 => ?_)
      refine w_call (want_yes rfl rfl rfl) Try.call48 rfl rfl rfl rfl (c48 _ _ _ [_] _ (by simp) (sl_own (i := 0) (rows := [[_]]) rfl (by simp) rfl) hs28) ?_
      rintro _ w30 ⟨rfl, hs31⟩
      refine w_pure want_none (y_pickF (v := .bool _) rfl rfl rfl rfl) rfl ?_
      refine w_pure want_none (y_move (v := .bool _) rfl rfl) rfl ?_
      refine w_split (fun h32 => ?_) (fun h32 => ?_)
      ·
        try simp only [Bool.not_eq_true', Bool.not_eq_false', decide_eq_true_eq, decide_eq_false_iff_not, Int.not_lt, Int.not_le] at h32
        refine w_skipop rfl rfl rfl ?_
        refine w_skipop rfl rfl rfl ?_
        refine w_skipop rfl rfl rfl ?_
        refine w_skipop rfl rfl rfl ?_
        refine w_skipop rfl rfl rfl ?_
        refine w_skipop rfl rfl rfl ?_
        refine w_skipop rfl rfl rfl ?_
        refine w_skipop rfl rfl rfl ?_
        refine w_pure want_none (y_pickT (v := _) rfl rfl rfl rfl) rfl ?_
        refine w_pure want_none (y_assign (v := .bool _) rfl rfl) rfl ?_
        refine w_nil ?_
        refine q_then (hK10 _ _ ?_)
        refine w_ret ?_
        refine q_ret (l := [.tmp 4]) (vs := [_]) rfl ⟨⟨rfl, show _ = (.bool _ : Value) from rfl⟩, trivial⟩ ?_
        try simp only [List.any_cons, List.any_nil, Bool.or_false, Bool.or_eq_false_iff] at h18 h25 h32
        exact ⟨congrArg Value.bool (by simp [flawIs, h18, h25, h32]), hs31.tail.tail.tail.tail⟩
      ·
        try simp only [Bool.not_eq_true', Bool.not_eq_false', decide_eq_true_eq, decide_eq_false_iff_not, Int.not_lt, Int.not_le] at h32
        refine w_pure (want_yes rfl rfl rfl) (y_fieldAddr (o := 4) (i := 4) Try.underlying60 rfl Try.sizeOf23 rfl rfl rfl) rfl ?_
        refine w_pure (want_yes rfl rfl rfl) (y_fieldAddr (o := 0) (i := 0) Try.underlying23 rfl Try.sizeOf3 rfl rfl rfl) rfl ?_
        refine w_pure (want_yes rfl rfl rfl) (y_load1 Try.isAgg3 hs31 rfl rfl (ats_own (i := 3) (vs := [_]) rfl rfl)) rfl ?_
        refine w_pure (want_yes rfl rfl rfl) (y_fieldAddr (o := 4) (i := 4) Try.underlying60 rfl Try.sizeOf23 rfl rfl rfl) rfl ?_
        refine w_pure (want_yes rfl rfl rfl) (y_fieldAddr (o := 1) (i := 1) Try.underlying23 rfl Try.sizeOf3 rfl rfl rfl) rfl ?_
        refine w_pure (want_yes rfl rfl rfl) (y_load1 Try.isAgg3 hs31 rfl rfl (ats_own (i := 3) (vs := [_]) rfl rfl)) rfl ?_
        refine w_bslice (ps := [(0, _), (1, _)]) (pv := [(0, .int _ _), (1, .int _ _)]) (cs := [_, _]) (want_yes rfl rfl rfl) rfl rfl (fun w => Try_C_fb1 _ _ w) hs31 (fun b33 w34 hs35 => ?_)
        refine w_call (want_yes rfl rfl rfl) Try.call48 rfl rfl rfl rfl (c48 _ _ _ [_, _] _ (by simp) (sl_own (i := 0) (rows := [[_], [_]]) rfl (by simp) rfl) hs35) ?_
        rintro _ w37 ⟨rfl, hs38⟩
        refine w_pure want_none (y_pickF (v := .bool _) rfl rfl rfl rfl) rfl ?_
        refine w_pure want_none (y_assign (v := .bool _) rfl rfl) rfl ?_
        refine w_nil ?_
        refine q_then (hK10 _ _ ?_)
        refine w_ret ?_
        refine q_ret (l := [.tmp 4]) (vs := [_]) rfl ⟨⟨rfl, show _ = (.bool _ : Value) from rfl⟩, trivial⟩ ?_
        try simp only [List.any_cons, List.any_nil, Bool.or_false, Bool.or_eq_false_iff] at h18 h25 h32
        exact ⟨congrArg Value.bool (by simp [flawIs, h18, h25, h32]), hs38.tail.tail.tail.tail.tail⟩

theorem c81 {w0 w : World} {F : List (Nat × Obj)} (a : Option Addr) (c : Nat) (l : List Farm) (hl3 : l.length ≤ 9223372036854775807) (hc : l.length ≤ c) (ha : Sl w0 F a 6 (rows l)) (i : Nat) (hi : i < l.length) (hs : St w0 w F) :
  Con Try.prog 81 [.slice a l.length c, .int .i64 (i : Int)] w fun v w' => v = .bool (flawIs (names (l.take i)) l[i] 3) ∧ St w0 w' F := by
  refine con_of_wc (n := 18) Try.func81 rfl rfl (Nat.le_of_ble_eq_true rfl) ?_
  obtain ⟨bx, ox, rfl, hx⟩ := sl_farm ha hi
  refine w_seq (fun K2 hK1 => ?_)
  refine w_region ?_
  refine w_pure want_none (y_assign (v := _) rfl rfl) rfl ?_
  refine w_nil ?_
  refine q_then (hK1 _ _ ?_)
  refine w_seq (fun K4 hK3 => ?_)
  refine w_draw [] [(0, 0), (1, 0), (2, 0), (3, 0), (4, 0), (5, 1), (6, 0), (7, 0), (8, 0), (9, 0), (10, 0), (11, 1), (12, 0), (13, 0)] Try_mo (by kernel_rfl) hs (fun w5 hs6 => ?_)
  refine d_any rfl want_none rfl (fun _ => (y_move (v := .slice _ _ _) rfl rfl)) ?_
  refine d_any rfl want_none rfl (fun _ => (y_move (v := .int _ _) rfl rfl)) ?_
  refine d_any rfl want_none rfl (fun _ => (y_indexS Try.underlying24 Try.sizeOf60 rfl rfl rfl rfl (i := _) rfl (by omega))) ?_
  refine d_any rfl want_none rfl (fun _ => (y_fieldAddr (o := 4) (i := 4) Try.underlying60 rfl Try.sizeOf23 rfl rfl rfl)) ?_
  refine d_any rfl want_none rfl (fun _ => (y_fieldAddr (o := 0) (i := 0) Try.underlying23 rfl Try.sizeOf3 rfl rfl rfl)) ?_
  refine d_take rfl want_none rfl hs6 (fun _ hq => (y_load1 Try.isAgg3 hq rfl rfl (show Ats _ _ _ _ [_] from Ats.part hx 4 1))) ?_
  refine d_any rfl want_none rfl (fun _ => (y_move (v := .slice _ _ _) rfl rfl)) ?_
  refine d_any rfl want_none rfl (fun _ => (y_move (v := .int _ _) rfl rfl)) ?_
  refine d_any rfl want_none rfl (fun _ => (y_indexS Try.underlying24 Try.sizeOf60 rfl rfl rfl rfl (i := _) rfl (by omega))) ?_
  refine d_any rfl want_none rfl (fun _ => (y_fieldAddr (o := 4) (i := 4) Try.underlying60 rfl Try.sizeOf23 rfl rfl rfl)) ?_
  refine d_any rfl want_none rfl (fun _ => (y_fieldAddr (o := 1) (i := 1) Try.underlying23 rfl Try.sizeOf3 rfl rfl rfl)) ?_
  refine d_take rfl want_none rfl hs6 (fun _ hq => (y_load1 Try.isAgg3 hq rfl rfl (show Ats _ _ _ _ [_] from Ats.part hx 5 1))) ?_
  refine d_any rfl want_none rfl (fun _ => (y_gtr rfl rfl rfl rfl)) ?_
  refine d_any rfl want_none rfl (fun _ => (y_assign (v := .bool _) rfl rfl)) ?_
  refine d_nil ?_
  refine q_then (hK3 _ _ ?_)
  refine w_ret ?_
  refine q_ret (l := [.tmp 4]) (vs := [_]) rfl ⟨⟨rfl, show _ = (.bool _ : Value) from rfl⟩, trivial⟩ ?_
  exact ⟨rfl, hs6⟩

def flawK : Nat → Nat
  | 0 => 75
  | 1 => 77
  | 2 => 80
  | _ => 81
def flawCells : List Value := [.int .i64 6, .func (.func 75) #[] #[], .int .i64 5, .func (.func 77) #[] #[], .int .i64 7, .func (.func 80) #[] #[], .int .i64 2, .func (.func 81) #[] #[]]
theorem flaw_at {w0 : World} {L : List (Nat × Obj)} {b i j : Nat} (hi : L[i]? = some (b, blk 76 flawCells)) (hj : j < 4) : Ats w0 L b (0 + j * 2) [.int .i64 (flawE j), .func (.func (flawK j)) #[] #[]] := by
  match j, hj with
  | 0, _ => exact ats_own hi rfl
  | 1, _ => exact ats_own hi rfl
  | 2, _ => exact ats_own hi rfl
  | 3, _ => exact ats_own hi rfl
theorem flaw_con {w0 w : World} {F : List (Nat × Obj)} (a : Option Addr) (c : Nat) (l : List Farm) (hl3 : l.length ≤ 9223372036854775807) (hc : l.length ≤ c) (ha : Sl w0 F a 6 (rows l)) (i : Nat) (hi : i < l.length) (hnm : l[i].name.size ≤ 9223372036854775807) (j : Nat) (hj : j < 4) (hs : St w0 w F) :
    FCon Try.prog (.func (.func (flawK j)) #[] #[]) [.slice a l.length c, .int .i64 (i : Int)] w fun v w' => v = .bool (flawIs (names (l.take i)) l[i] j) ∧ St w0 w' F := by
  match j, hj with
  | 0, _ => exact fcon_fn Try.call75 (c75 a c l hl3 hc ha i hi hnm hs)
  | 1, _ => exact fcon_fn Try.call77 (c77 a c l hl3 hc ha i hi hs)
  | 2, _ => exact fcon_fn Try.call80 (c80 a c l hl3 hc ha i hi hs)
  | 3, _ => exact fcon_fn Try.call81 (c81 a c l hl3 hc ha i hi hs)
theorem c49 {w0 w : World} {F : List (Nat × Obj)}  (hs : St w0 w F) :
  Con Try.prog 49 [] w fun v w' => ∃ b, v = .slice (some ⟨b, 0, none⟩) 4 4 ∧ St w0 w' ((b, blk 76 flawCells) :: F) := by
  refine con_of_wc (n := 6) Try.func49 rfl rfl (Nat.le_of_ble_eq_true rfl) ?_
  refine w_seq (fun K2 hK1 => ?_)
  refine w_region ?_
  refine w_pure want_none (y_assign (v := _) rfl rfl) rfl ?_
  refine w_nil ?_
  refine q_then (hK1 _ _ ?_)
  refine w_seq (fun K4 hK3 => ?_)
  refine w_region ?_
  refine w_pure want_none (y_build (ps := [(0, _), (1, _)]) (pv := [(0, .int _ _), (1, .func _ _ _)]) rfl rfl (fun w => Try_C_fb2 _ _ _ _ w)) rfl ?_
  refine w_pure want_none (y_build (ps := [(0, _), (1, _)]) (pv := [(0, .int _ _), (1, .func _ _ _)]) rfl rfl (fun w => Try_C_fb2 _ _ _ _ w)) rfl ?_
  refine w_pure want_none (y_build (ps := [(0, _), (1, _)]) (pv := [(0, .int _ _), (1, .func _ _ _)]) rfl rfl (fun w => Try_C_fb2 _ _ _ _ w)) rfl ?_
  refine w_pure want_none (y_build (ps := [(0, _), (1, _)]) (pv := [(0, .int _ _), (1, .func _ _ _)]) rfl rfl (fun w => Try_C_fb2 _ _ _ _ w)) rfl ?_
  refine w_bslice (ps := [(0, _), (1, _), (2, _), (3, _)]) (pv := [(0, .agg #[.int _ _, .func _ _ _]), (1, .agg #[.int _ _, .func _ _ _]), (2, .agg #[.int _ _, .func _ _ _]), (3, .agg #[.int _ _, .func _ _ _])]) (cs := [_, _, _, _, _, _, _, _]) want_none rfl rfl (fun w => Try_C_fb3 _ _ _ _ _ _ _ _ _ _ _ _ _ _ _ _ w) hs (fun b5 w6 hs7 => ?_)
  refine w_pure want_none (y_assign (v := .slice _ _ _) rfl rfl) rfl ?_
  refine w_nil ?_
  refine q_then (hK3 _ _ ?_)
  refine w_ret ?_
  refine q_ret (l := [.tmp 0]) (vs := [_]) rfl ⟨⟨rfl, show _ = (.slice _ _ _ : Value) from rfl⟩, trivial⟩ ?_
  exact ⟨_, rfl, hs7⟩

theorem tup3 {x : Int × Int × Int} {a b c : Int} (h : x = (a, b, c)) : Value.tuple #[.int .i64 a, .int .i64 b, .int .i64 c] = .tuple #[.int .i64 x.1, .int .i64 x.2.1, .int .i64 x.2.2] := by subst h; rfl
theorem c16 {w0 w : World} {F : List (Nat × Obj)} (p : Port) (a : Option Addr) (c : Nat) (hl3 : p.farms.length ≤ 9223372036854775807) (hc : p.farms.length ≤ c) (ha : Sl w0 F a 6 (rows p.farms)) (hnm : ∀ f ∈ p.farms, f.name.size ≤ 9223372036854775807) (hs : St w0 w F) :
  Con Try.prog 16 [.agg (p.cells a c).toArray] w fun v w' => v = .tuple #[.int .i64 (check p).1, .int .i64 (check p).2.1, .int .i64 (check p).2.2] ∧ St w0 w' F := by
  refine con_of_wc (n := 59) Try.func16 rfl rfl (Nat.le_of_ble_eq_true rfl) ?_
  refine w_seq (fun K2 hK1 => ?_)
  refine w_region ?_
  refine w_box (v := .agg #[.int _ _, .int _ _, .int _ _, .slice _ _ _]) (cs := [_, _, _, _]) want_none rfl rfl rfl hs (fun b3 w4 hs5 => ?_)
  refine w_pure want_none (y_assign (v := _) rfl rfl) rfl ?_
  refine w_pure want_none (y_assign (v := _) rfl rfl) rfl ?_
  refine w_pure want_none (y_assign (v := _) rfl rfl) rfl ?_
  refine w_nil ?_
  refine q_then (hK1 _ _ ?_)
  refine w_seq (fun K7 hK6 => ?_)
  refine w_block ?_
  refine w_seq (fun K9 hK8 => ?_)
  refine w_region ?_
  refine w_pure want_none (y_fieldAddr (o := 0) (i := 0) Try.underlying26 rfl Try.sizeOf3 rfl rfl rfl) rfl ?_
  refine w_pure want_none (y_load1 Try.isAgg3 hs5 rfl rfl (ats_own (i := 0) (vs := [_]) rfl rfl)) rfl ?_
  refine w_bslice (ps := [(0, _)]) (pv := [(0, .int _ _)]) (cs := [_]) want_none rfl rfl (fun w => Try_C_fb0 _ w) hs5 (fun b10 w11 hs12 => ?_)
  refine w_call want_none Try.call48 rfl rfl rfl rfl (c48 _ _ _ [_] _ (by simp) (sl_own (i := 0) (rows := [[_]]) rfl (by simp) rfl) hs12) ?_
  rintro _ w14 ⟨rfl, hs15⟩
  refine w_pure want_none (y_move (v := .bool _) rfl rfl) rfl ?_
  refine w_split (fun h16 => ?_) (fun h16 => ?_)
  ·
    try simp only [Bool.not_eq_true', Bool.not_eq_false', decide_eq_true_eq, decide_eq_false_iff_not, Int.not_lt, Int.not_le] at h16
    refine w_skipop rfl rfl rfl ?_
    refine w_skipop rfl rfl rfl ?_
    refine w_skipop rfl rfl rfl ?_
    refine w_skipop rfl rfl rfl ?_
    refine w_skipop rfl rfl rfl ?_
    refine w_skipop rfl rfl rfl ?_
    refine w_skipop rfl rfl rfl ?_
    refine w_skipop rfl rfl rfl ?_
    refine w_pure want_none (y_pickT (v := _) rfl rfl rfl rfl) rfl ?_
    refine w_pure want_none (y_assign (v := .bool _) rfl rfl) rfl ?_
    refine w_nil ?_
    refine q_then (hK8 _ _ ?_)
    refine w_condT rfl rfl ?_
    refine w_seq (fun K18 hK17 => ?_)
    refine w_region ?_
    refine w_pure want_none (y_assign (v := _) rfl rfl) rfl ?_
    refine w_pure want_none (y_assign (v := _) rfl rfl) rfl ?_
    refine w_pure want_none (y_assign (v := _) rfl rfl) rfl ?_
    refine w_nil ?_
    refine q_then (hK17 _ _ ?_)
    refine w_ret ?_
    refine q_blk_ret ?_
    refine q_then_ret ?_
    refine q_ret (l := [.tmp 2, .tmp 3, .tmp 4]) (vs := [_, _, _]) rfl ⟨⟨rfl, show _ = (.int _ _ : Value) from rfl⟩, ⟨rfl, show _ = (.int _ _ : Value) from rfl⟩, ⟨rfl, show _ = (.int _ _ : Value) from rfl⟩, trivial⟩ ?_
    try simp only [List.any_cons, List.any_nil, Bool.or_false, Bool.or_eq_false_iff] at h16
    first
      | exact ⟨tup3 (hinv.trans ((farmsErr_stop hi2 (by rw [fErr_flaw _ _ j hj2 (by assumption) hfl]; match j, hj2 with | 0, _ => decide | 1, _ => decide | 2, _ => decide | 3, _ => decide)).trans (by rw [fErr_flaw _ _ j hj2 (by assumption) hfl]))), hs15.tail.tail⟩
      | exact ⟨tup3 (hinv.trans (farmsErr_end (by omega) _)), hs15.tail.tail⟩
      | (refine ⟨tup3 ?_, hs15.tail.tail⟩; unfold check; rw [if_pos (by simp [h16])]; done)
      | (refine ⟨tup3 ?_, hs15.tail.tail⟩; unfold check; rw [if_neg (by simp [h16]), if_pos (by omega)]; done)
      | (refine ⟨tup3 ?_, hs15.tail.tail⟩; unfold check; rw [if_neg (by simp [h16]), if_neg (by omega), if_pos (by omega)]; done)
  ·
    try simp only [Bool.not_eq_true', Bool.not_eq_false', decide_eq_true_eq, decide_eq_false_iff_not, Int.not_lt, Int.not_le] at h16
    refine w_pure (want_yes rfl rfl rfl) (y_fieldAddr (o := 1) (i := 1) Try.underlying26 rfl Try.sizeOf23 rfl rfl rfl) rfl ?_
    refine w_pure (want_yes rfl rfl rfl) (y_fieldAddr (o := 0) (i := 0) Try.underlying23 rfl Try.sizeOf3 rfl rfl rfl) rfl ?_
    refine w_pure (want_yes rfl rfl rfl) (y_load1 Try.isAgg3 hs15 rfl rfl (ats_own (i := 1) (vs := [_]) rfl rfl)) rfl ?_
    refine w_pure (want_yes rfl rfl rfl) (y_fieldAddr (o := 1) (i := 1) Try.underlying26 rfl Try.sizeOf23 rfl rfl rfl) rfl ?_
    refine w_pure (want_yes rfl rfl rfl) (y_fieldAddr (o := 1) (i := 1) Try.underlying23 rfl Try.sizeOf3 rfl rfl rfl) rfl ?_
    refine w_pure (want_yes rfl rfl rfl) (y_load1 Try.isAgg3 hs15 rfl rfl (ats_own (i := 1) (vs := [_]) rfl rfl)) rfl ?_
    refine w_bslice (ps := [(0, _), (1, _)]) (pv := [(0, .int _ _), (1, .int _ _)]) (cs := [_, _]) (want_yes rfl rfl rfl) rfl rfl (fun w => Try_C_fb1 _ _ w) hs15 (fun b19 w20 hs21 => ?_)
    refine w_call (want_yes rfl rfl rfl) Try.call48 rfl rfl rfl rfl (c48 _ _ _ [_, _] _ (by simp) (sl_own (i := 0) (rows := [[_], [_]]) rfl (by simp) rfl) hs21) ?_
    rintro _ w23 ⟨rfl, hs24⟩
    refine w_pure want_none (y_pickF (v := .bool _) rfl rfl rfl rfl) rfl ?_
    refine w_pure want_none (y_assign (v := .bool _) rfl rfl) rfl ?_
    refine w_nil ?_
    refine q_then (hK8 _ _ ?_)
    refine w_cond rfl rfl (fun h25 => ?_) (fun h25 => ?_)
    ·
      try simp only [Bool.not_eq_true', Bool.not_eq_false', decide_eq_true_eq, decide_eq_false_iff_not, Int.not_lt, Int.not_le] at h25
      refine w_seq (fun K27 hK26 => ?_)
      refine w_region ?_
      refine w_pure want_none (y_assign (v := _) rfl rfl) rfl ?_
      refine w_pure want_none (y_assign (v := _) rfl rfl) rfl ?_
      refine w_pure want_none (y_assign (v := _) rfl rfl) rfl ?_
      refine w_nil ?_
      refine q_then (hK26 _ _ ?_)
      refine w_ret ?_
      refine q_blk_ret ?_
      refine q_then_ret ?_
      refine q_ret (l := [.tmp 2, .tmp 3, .tmp 4]) (vs := [_, _, _]) rfl ⟨⟨rfl, show _ = (.int _ _ : Value) from rfl⟩, ⟨rfl, show _ = (.int _ _ : Value) from rfl⟩, ⟨rfl, show _ = (.int _ _ : Value) from rfl⟩, trivial⟩ ?_
      try simp only [List.any_cons, List.any_nil, Bool.or_false, Bool.or_eq_false_iff] at h16 h25
      first
        | exact ⟨tup3 (hinv.trans ((farmsErr_stop hi2 (by rw [fErr_flaw _ _ j hj2 (by assumption) hfl]; match j, hj2 with | 0, _ => decide | 1, _ => decide | 2, _ => decide | 3, _ => decide)).trans (by rw [fErr_flaw _ _ j hj2 (by assumption) hfl]))), hs24.tail.tail.tail⟩
        | exact ⟨tup3 (hinv.trans (farmsErr_end (by omega) _)), hs24.tail.tail.tail⟩
        | (refine ⟨tup3 ?_, hs24.tail.tail.tail⟩; unfold check; rw [if_pos (by simp [h16, h25])]; done)
        | (refine ⟨tup3 ?_, hs24.tail.tail.tail⟩; unfold check; rw [if_neg (by simp [h16, h25]), if_pos (by omega)]; done)
        | (refine ⟨tup3 ?_, hs24.tail.tail.tail⟩; unfold check; rw [if_neg (by simp [h16, h25]), if_neg (by omega), if_pos (by omega)]; done)
    ·
      try simp only [Bool.not_eq_true', Bool.not_eq_false', decide_eq_true_eq, decide_eq_false_iff_not, Int.not_lt, Int.not_le] at h25
      refine w_seq (fun K29 hK28 => ?_)
      refine w_region ?_
      refine w_pure want_none (y_fieldAddr (o := 1) (i := 1) Try.underlying26 rfl Try.sizeOf23 rfl rfl rfl) rfl ?_
      refine w_pure want_none (y_fieldAddr (o := 0) (i := 0) Try.underlying23 rfl Try.sizeOf3 rfl rfl rfl) rfl ?_
      refine w_pure want_none (y_load1 Try.isAgg3 hs24 rfl rfl (ats_own (i := 2) (vs := [_]) rfl rfl)) rfl ?_
      refine w_pure want_none (y_fieldAddr (o := 1) (i := 1) Try.underlying26 rfl Try.sizeOf23 rfl rfl rfl) rfl ?_
      refine w_pure want_none (y_fieldAddr (o := 1) (i := 1) Try.underlying23 rfl Try.sizeOf3 rfl rfl rfl) rfl ?_
      refine w_pure want_none (y_load1 Try.isAgg3 hs24 rfl rfl (ats_own (i := 2) (vs := [_]) rfl rfl)) rfl ?_
      refine w_pure want_none (y_gtr rfl rfl rfl rfl) rfl ?_
      refine w_pure want_none (y_assign (v := .bool _) rfl rfl) rfl ?_
      refine w_nil ?_
      refine q_then (hK28 _ _ ?_)
      refine w_cond rfl rfl (fun h30 => ?_) (fun h30 => ?_)
      ·
        try simp only [Bool.not_eq_true', Bool.not_eq_false', decide_eq_true_eq, decide_eq_false_iff_not, Int.not_lt, Int.not_le] at h30
        refine w_seq (fun K32 hK31 => ?_)
        refine w_region ?_
        refine w_pure want_none (y_assign (v := _) rfl rfl) rfl ?_
        refine w_pure want_none (y_assign (v := _) rfl rfl) rfl ?_
        refine w_pure want_none (y_assign (v := _) rfl rfl) rfl ?_
        refine w_nil ?_
        refine q_then (hK31 _ _ ?_)
        refine w_ret ?_
        refine q_blk_ret ?_
        refine q_then_ret ?_
        refine q_ret (l := [.tmp 2, .tmp 3, .tmp 4]) (vs := [_, _, _]) rfl ⟨⟨rfl, show _ = (.int _ _ : Value) from rfl⟩, ⟨rfl, show _ = (.int _ _ : Value) from rfl⟩, ⟨rfl, show _ = (.int _ _ : Value) from rfl⟩, trivial⟩ ?_
        try simp only [List.any_cons, List.any_nil, Bool.or_false, Bool.or_eq_false_iff] at h16 h25 h30
        first
          | exact ⟨tup3 (hinv.trans ((farmsErr_stop hi2 (by rw [fErr_flaw _ _ j hj2 (by assumption) hfl]; match j, hj2 with | 0, _ => decide | 1, _ => decide | 2, _ => decide | 3, _ => decide)).trans (by rw [fErr_flaw _ _ j hj2 (by assumption) hfl]))), hs24.tail.tail.tail⟩
          | exact ⟨tup3 (hinv.trans (farmsErr_end (by omega) _)), hs24.tail.tail.tail⟩
          | (refine ⟨tup3 ?_, hs24.tail.tail.tail⟩; unfold check; rw [if_pos (by simp [h16, h25, h30])]; done)
          | (refine ⟨tup3 ?_, hs24.tail.tail.tail⟩; unfold check; rw [if_neg (by simp [h16, h25, h30]), if_pos (by omega)]; done)
          | (refine ⟨tup3 ?_, hs24.tail.tail.tail⟩; unfold check; rw [if_neg (by simp [h16, h25, h30]), if_neg (by omega), if_pos (by omega)]; done)
      ·
        try simp only [Bool.not_eq_true', Bool.not_eq_false', decide_eq_true_eq, decide_eq_false_iff_not, Int.not_lt, Int.not_le] at h30
        refine w_seq (fun K34 hK33 => ?_)
        refine w_region ?_
        refine w_pure want_none (y_fieldAddr (o := 3) (i := 2) Try.underlying26 rfl Try.sizeOf24 rfl rfl rfl) rfl ?_
        refine w_pure want_none (y_load1 Try.isAgg24 hs24 rfl rfl (ats_own (i := 2) (vs := [_]) rfl rfl)) rfl ?_
        refine w_pure want_none (y_lenS Try.underlying24 rfl rfl) rfl ?_
        refine w_pure want_none (y_gtr rfl rfl rfl rfl) rfl ?_
        refine w_pure want_none (y_assign (v := .bool _) rfl rfl) rfl ?_
        refine w_nil ?_
        refine q_then (hK33 _ _ ?_)
        refine w_cond rfl rfl (fun h35 => ?_) (fun h35 => ?_)
        ·
          try simp only [Bool.not_eq_true', Bool.not_eq_false', decide_eq_true_eq, decide_eq_false_iff_not, Int.not_lt, Int.not_le] at h35
          refine w_seq (fun K37 hK36 => ?_)
          refine w_region ?_
          refine w_pure want_none (y_assign (v := _) rfl rfl) rfl ?_
          refine w_pure want_none (y_assign (v := _) rfl rfl) rfl ?_
          refine w_pure want_none (y_assign (v := _) rfl rfl) rfl ?_
          refine w_nil ?_
          refine q_then (hK36 _ _ ?_)
          refine w_ret ?_
          refine q_blk_ret ?_
          refine q_then_ret ?_
          refine q_ret (l := [.tmp 2, .tmp 3, .tmp 4]) (vs := [_, _, _]) rfl ⟨⟨rfl, show _ = (.int _ _ : Value) from rfl⟩, ⟨rfl, show _ = (.int _ _ : Value) from rfl⟩, ⟨rfl, show _ = (.int _ _ : Value) from rfl⟩, trivial⟩ ?_
          try simp only [List.any_cons, List.any_nil, Bool.or_false, Bool.or_eq_false_iff] at h16 h25 h30 h35
          first
            | exact ⟨tup3 (hinv.trans ((farmsErr_stop hi2 (by rw [fErr_flaw _ _ j hj2 (by assumption) hfl]; match j, hj2 with | 0, _ => decide | 1, _ => decide | 2, _ => decide | 3, _ => decide)).trans (by rw [fErr_flaw _ _ j hj2 (by assumption) hfl]))), hs24.tail.tail.tail⟩
            | exact ⟨tup3 (hinv.trans (farmsErr_end (by omega) _)), hs24.tail.tail.tail⟩
            | (refine ⟨tup3 ?_, hs24.tail.tail.tail⟩; unfold check; rw [if_pos (by simp [h16, h25, h30, h35])]; done)
            | (refine ⟨tup3 ?_, hs24.tail.tail.tail⟩; unfold check; rw [if_neg (by simp [h16, h25, h30, h35]), if_pos (by omega)]; done)
            | (refine ⟨tup3 ?_, hs24.tail.tail.tail⟩; unfold check; rw [if_neg (by simp [h16, h25, h30, h35]), if_neg (by omega), if_pos (by omega)]; done)
        ·
          try simp only [Bool.not_eq_true', Bool.not_eq_false', decide_eq_true_eq, decide_eq_false_iff_not, Int.not_lt, Int.not_le] at h35
          refine w_skip ?_
          refine q_blk_normal ?_
          refine q_then (hK6 _ _ ?_)
          refine w_seq (fun K39 hK38 => ?_)
          refine w_seq (fun K41 hK40 => ?_)
          refine w_region ?_
          refine w_pure want_none (y_fieldAddr (o := 3) (i := 2) Try.underlying26 rfl Try.sizeOf24 rfl rfl rfl) rfl ?_
          refine w_pure want_none (y_load1 Try.isAgg24 hs24 rfl rfl (ats_own (i := 2) (vs := [_]) rfl rfl)) rfl ?_
          refine w_pure want_none (y_lenS Try.underlying24 rfl rfl) rfl ?_
          refine w_pure want_none (y_move (v := _) rfl rfl) rfl ?_
          refine w_nil ?_
          refine q_then (hK40 _ _ ?_)
          refine w_block ?_
          refine w_loop [2, 3, 4, 5, 7, 39, 40, 41, 42, 43, 44, 45, 46, 47, 48, 49, 50, 51, 52, 53, 54, 55, 56, 57, 58] [39] (fun k vs w => ∃ i : Nat, vs = [.int .i64 i] ∧ i ≤ p.farms.length ∧ k = p.farms.length - i ∧ check p = farmsErr (names (p.farms.take i)) (i : Nat) (p.farms.drop i) ∧ St w0 w ((b3, blk 26 (p.cells a c)) :: F)) (p.farms.length) ?_ ?_
          ·
            try simp only [List.any_cons, List.any_nil, Bool.or_false, Bool.or_eq_false_iff] at h16 h25 h30 h35
            exact ⟨0, rfl, by omega, by omega, (by unfold check; rw [if_neg (by simp [h16, h25, h30, h35]), if_neg (by omega), if_neg (by omega)]; rfl), hs24.tail.tail⟩
          ·
            intro k vs μ w44 hI K43 hN42
            obtain ⟨i, rfl, hia, rfl, hinv, hs⟩ := hI
            refine w_seq (fun K46 hK45 => ?_)
            refine w_region ?_
            refine w_pure want_none (y_lss rfl rfl rfl rfl) rfl ?_
            refine w_nil ?_
            refine q_then (hK45 _ _ ?_)
            refine w_seq (fun K48 hK47 => ?_)
            refine w_cond rfl rfl (fun h49 => ?_) (fun h49 => ?_)
            ·
              try simp only [Bool.not_eq_true', Bool.not_eq_false', decide_eq_true_eq, decide_eq_false_iff_not, Int.not_lt, Int.not_le] at h49
              refine w_skip ?_
              refine q_then (hK47 _ _ ?_)
              refine w_seq (fun K51 hK50 => ?_)
              refine w_block ?_
              refine w_seq (fun K53 hK52 => ?_)
              refine w_region ?_
              refine w_pure want_none (y_move (v := .int _ _) rfl rfl) rfl ?_
              refine w_pure want_none (y_assign (v := .int _ _) rfl rfl) rfl ?_
              refine w_nil ?_
              refine q_then (hK52 _ _ ?_)
              refine w_seq (fun K55 hK54 => ?_)
              have hi2 : i < p.farms.length := by omega
              refine w_region ?_
              refine w_call want_none Try.call49 rfl rfl rfl rfl (c49 hs) ?_
              rintro _ w57 ⟨bq, rfl, hs58⟩
              refine w_pure want_none (y_lenS Try.underlying72 rfl rfl) rfl ?_
              refine w_pure want_none (y_move (v := _) rfl rfl) rfl ?_
              refine w_nil ?_
              refine q_then (hK54 _ _ ?_)
              refine w_block ?_
              refine w_loop [2, 3, 4, 7, 44, 45, 46, 47, 48, 49, 50, 51, 52, 53, 54, 55, 56, 57] [44] (fun k vs w => ∃ j : Nat, vs = [.int .i64 j] ∧ j ≤ 4 ∧ k = 4 - j ∧ (∀ q < j, flawIs (names (p.farms.take i)) p.farms[i] q = false) ∧ St w0 w ((bq, blk 76 flawCells) :: (b3, blk 26 (p.cells a c)) :: F)) (4) ?_ ?_
              ·
                exact ⟨0, rfl, by omega, by omega, (fun q hq => by omega), hs58⟩
              ·
                intro k vs μ w61 hI K60 hN59
                obtain ⟨j, rfl, hja, rfl, hfl, hs⟩ := hI
                refine w_seq (fun K63 hK62 => ?_)
                refine w_region ?_
                refine w_pure want_none (y_lss rfl rfl rfl rfl) rfl ?_
                refine w_nil ?_
                refine q_then (hK62 _ _ ?_)
                refine w_seq (fun K65 hK64 => ?_)
                refine w_cond rfl rfl (fun h66 => ?_) (fun h66 => ?_)
                ·
                  try simp only [Bool.not_eq_true', Bool.not_eq_false', decide_eq_true_eq, decide_eq_false_iff_not, Int.not_lt, Int.not_le] at h66
                  refine w_skip ?_
                  refine q_then (hK64 _ _ ?_)
                  refine w_seq (fun K68 hK67 => ?_)
                  refine w_block ?_
                  refine w_seq (fun K70 hK69 => ?_)
                  have hj2 : j < 4 := by omega
                  have hxq := flaw_at (w0 := w0) (L := (bq, blk 76 flawCells) :: (b3, blk 26 (p.cells a c)) :: F) (i := 0) rfl hj2
                  refine w_region ?_
                  refine w_pure want_none (y_indexS Try.underlying72 Try.sizeOf76 rfl rfl rfl rfl (i := _) rfl (by omega)) rfl ?_
                  refine w_pure want_none (y_loadN (vs := [_, _]) Try.isAgg76 Try.sizeOf76 hs rfl rfl hxq) rfl ?_
                  refine w_alloc (cs := [_, _]) want_none Try.zeroValue76 rfl hs (fun b71 w72 hs73 => ?_)
                  refine w_store (i := 0) (v := .agg #[.int _ _, .func _ _ _]) (vs := [_, _]) want_none Try.sizeOf76 rfl rfl rfl rfl rfl (by simp [Value.oneCell']) hs73 rfl (Nat.le_of_ble_eq_true rfl) (fun w74 hs75 => ?_)
                  refine w_nil ?_
                  refine q_then (hK69 _ _ ?_)
                  refine w_seq (fun K77 hK76 => ?_)
                  refine w_region ?_
                  refine w_pure want_none (y_fieldAddr (o := 1) (i := 1) Try.underlying76 rfl Try.sizeOf74 rfl rfl rfl) rfl ?_
                  refine w_pure want_none (y_load1 Try.isAgg74 hs75 rfl rfl (ats_own (i := 0) (vs := [_]) rfl rfl)) rfl ?_
                  refine w_pure want_none (y_fieldAddr (o := 3) (i := 2) Try.underlying26 rfl Try.sizeOf24 rfl rfl rfl) rfl ?_
                  refine w_pure want_none (y_load1 Try.isAgg24 hs75 rfl rfl (ats_own (i := 2) (vs := [_]) rfl rfl)) rfl ?_
                  refine w_pure want_none (y_move (v := .int _ _) rfl rfl) rfl ?_
                  refine w_callV want_none rfl rfl rfl rfl (flaw_con a c p.farms hl3 hc ha.cons.cons.cons i hi2 (hnm _ (List.getElem_mem hi2)) j hj2 hs75) ?_
                  rintro _ w79 ⟨rfl, hs80⟩
                  refine w_nil ?_
                  refine q_then (hK76 _ _ ?_)
                  refine w_cond rfl rfl (fun h81 => ?_) (fun h81 => ?_)
                  ·
                    try simp only [Bool.not_eq_true', Bool.not_eq_false', decide_eq_true_eq, decide_eq_false_iff_not, Int.not_lt, Int.not_le] at h81
                    refine w_seq (fun K83 hK82 => ?_)
                    refine w_draw [] [(0, 0), (1, 0), (2, 1), (3, 0), (4, 0), (5, 0)] Try_mo (by kernel_rfl) hs80 (fun w84 hs85 => ?_)
                    refine d_any rfl want_none rfl (fun _ => (y_move (v := .int _ _) rfl rfl)) ?_
                    refine d_any rfl want_none rfl (fun _ => (y_fieldAddr (o := 0) (i := 0) Try.underlying76 rfl Try.sizeOf28 rfl rfl rfl)) ?_
                    refine d_take rfl want_none rfl hs85 (fun _ hq => (y_load1 Try.isAgg28 hq rfl rfl (ats_own (i := 0) (vs := [_]) rfl rfl))) ?_
                    refine d_any rfl want_none rfl (fun _ => (y_assign (v := _) rfl rfl)) ?_
                    refine d_any rfl want_none rfl (fun _ => (y_assign (v := .int _ _) rfl rfl)) ?_
                    refine d_any rfl want_none rfl (fun _ => (y_assign (v := .int _ _) rfl rfl)) ?_
                    refine d_nil ?_
                    refine q_then (hK82 _ _ ?_)
                    refine w_ret ?_
                    refine q_blk_ret ?_
                    refine q_then_ret ?_
                    refine q_then_ret ?_
                    refine q_blk_ret ?_
                    refine q_blk_ret ?_
                    refine q_then_ret ?_
                    refine q_then_ret ?_
                    refine q_blk_ret ?_
                    refine q_then_ret ?_
                    refine q_ret (l := [.tmp 2, .tmp 3, .tmp 4]) (vs := [_, _, _]) rfl ⟨⟨rfl, show _ = (.int _ _ : Value) from rfl⟩, ⟨rfl, show _ = (.int _ _ : Value) from rfl⟩, ⟨rfl, show _ = (.int _ _ : Value) from rfl⟩, trivial⟩ ?_
                    try simp only [List.any_cons, List.any_nil, Bool.or_false, Bool.or_eq_false_iff] at h16 h25 h30 h35 h49 h66 h81
                    first
                      | exact ⟨tup3 (hinv.trans ((farmsErr_stop hi2 (by rw [fErr_flaw _ _ j hj2 (by assumption) hfl]; match j, hj2 with | 0, _ => decide | 1, _ => decide | 2, _ => decide | 3, _ => decide)).trans (by rw [fErr_flaw _ _ j hj2 (by assumption) hfl]))), hs85.tail.tail.tail⟩
                      | exact ⟨tup3 (hinv.trans (farmsErr_end (by omega) _)), hs85.tail.tail.tail⟩
                      | (refine ⟨tup3 ?_, hs85.tail.tail.tail⟩; unfold check; rw [if_pos (by simp [h16, h25, h30, h35, h49, h66, h81])]; done)
                      | (refine ⟨tup3 ?_, hs85.tail.tail.tail⟩; unfold check; rw [if_neg (by simp [h16, h25, h30, h35, h49, h66, h81]), if_pos (by omega)]; done)
                      | (refine ⟨tup3 ?_, hs85.tail.tail.tail⟩; unfold check; rw [if_neg (by simp [h16, h25, h30, h35, h49, h66, h81]), if_neg (by omega), if_pos (by omega)]; done)
                  ·
                    try simp only [Bool.not_eq_true', Bool.not_eq_false', decide_eq_true_eq, decide_eq_false_iff_not, Int.not_lt, Int.not_le] at h81
                    refine w_skip ?_
                    refine q_blk_normal ?_
                    refine q_then (hK67 _ _ ?_)
                    refine w_region ?_
                    refine w_pure want_none (y_add rfl rfl rfl rfl (by omega) (by omega)) rfl ?_
                    refine w_pure want_none (y_move (v := .int _ _) rfl rfl) rfl ?_
                    refine w_nil ?_
                    refine q_then (hN59 _ _ (Nx.intro (4 - (j + 1)) (by omega) (by repeat (first | exact agree_mix | refine agree_upd rfl ?_ | refine agree_updL rfl ?_ _ | refine agree_mixin rfl ?_)) ?_))
                    exact ⟨j + 1, rfl, by omega, rfl, (fun q hq => by rcases Nat.lt_or_ge q j with h | h; exact hfl q h; have hqj : q = j := (by omega); subst hqj; assumption), hs80.tail⟩
                ·
                  try simp only [Bool.not_eq_true', Bool.not_eq_false', decide_eq_true_eq, decide_eq_false_iff_not, Int.not_lt, Int.not_le] at h66
                  refine w_exit ?_
                  refine q_then_exit ?_
                  refine q_then_exit ?_
                  refine q_blk_this ?_
                  refine q_blk_normal ?_
                  refine q_then (hK50 _ _ ?_)
                  refine w_region ?_
                  refine w_pure want_none (y_add rfl rfl rfl rfl (by omega) (by omega)) rfl ?_
                  refine w_pure want_none (y_move (v := .int _ _) rfl rfl) rfl ?_
                  refine w_nil ?_
                  refine q_then (hN42 _ _ (Nx.intro (p.farms.length - (i + 1)) (by omega) (by repeat (first | exact agree_mix | refine agree_upd rfl ?_ | refine agree_updL rfl ?_ _ | refine agree_mixin rfl ?_)) ?_))
                  have hj4 : j = 4 := by omega
                  subst hj4
                  exact ⟨i + 1, rfl, by omega, rfl, hinv.trans (farmsErr_step hi2 (fErr_fine _ _ hfl)), hs.tail⟩
            ·
              try simp only [Bool.not_eq_true', Bool.not_eq_false', decide_eq_true_eq, decide_eq_false_iff_not, Int.not_lt, Int.not_le] at h49
              refine w_exit ?_
              refine q_then_exit ?_
              refine q_then_exit ?_
              refine q_blk_this ?_
              refine q_then (hK38 _ _ ?_)
              refine w_seq (fun K87 hK86 => ?_)
              refine w_region ?_
              refine w_pure want_none (y_assign (v := _) rfl rfl) rfl ?_
              refine w_pure want_none (y_assign (v := _) rfl rfl) rfl ?_
              refine w_pure want_none (y_assign (v := _) rfl rfl) rfl ?_
              refine w_nil ?_
              refine q_then (hK86 _ _ ?_)
              refine w_ret ?_
              refine q_ret (l := [.tmp 2, .tmp 3, .tmp 4]) (vs := [_, _, _]) rfl ⟨⟨rfl, show _ = (.int _ _ : Value) from rfl⟩, ⟨rfl, show _ = (.int _ _ : Value) from rfl⟩, ⟨rfl, show _ = (.int _ _ : Value) from rfl⟩, trivial⟩ ?_
              try simp only [List.any_cons, List.any_nil, Bool.or_false, Bool.or_eq_false_iff] at h16 h25 h30 h35 h49
              first
                | exact ⟨tup3 (hinv.trans ((farmsErr_stop hi2 (by rw [fErr_flaw _ _ j hj2 (by assumption) hfl]; match j, hj2 with | 0, _ => decide | 1, _ => decide | 2, _ => decide | 3, _ => decide)).trans (by rw [fErr_flaw _ _ j hj2 (by assumption) hfl]))), hs.tail⟩
                | exact ⟨tup3 (hinv.trans (farmsErr_end (by omega) _)), hs.tail⟩
                | (refine ⟨tup3 ?_, hs.tail⟩; unfold check; rw [if_pos (by simp [h16, h25, h30, h35, h49])]; done)
                | (refine ⟨tup3 ?_, hs.tail⟩; unfold check; rw [if_neg (by simp [h16, h25, h30, h35, h49]), if_pos (by omega)]; done)
                | (refine ⟨tup3 ?_, hs.tail⟩; unfold check; rw [if_neg (by simp [h16, h25, h30, h35, h49]), if_neg (by omega), if_pos (by omega)]; done)

end Go.Proofs
