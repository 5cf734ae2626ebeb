/- Walks of this seat, printed by gen.py over the engine: what each function returns, in whatever world. No conditions but those of each contract. -/
import Derived.Test.YtbnnmjfjibneaaaRows
import Derived.Test.YtbnnmjfjibneaaaEng9
import Derived.Test.YtbnnmjfjibneaaaCSpec
set_option linter.unusedVariables false
set_option linter.unusedSimpArgs false
set_option maxRecDepth 20000
namespace Go.Proofs
open Go.Rt
attribute [local irreducible] WL WC Con Yd At Ats Sl Agree DW

theorem Try_mo : Try.prog.follows .mixedOrders = true := by kernel_rfl
theorem c51 {w0 w : World} {F : List (Nat × Obj)} (n lo hi : Int) (hs : St w0 w F) : Con Try.prog 51 [.int .i64 n, .int .i64 lo, .int .i64 hi] w fun v w' => v = .bool (decide (lo ≤ n ∧ n ≤ hi)) ∧ St w0 w' F := by
  refine con_of_wc (n := 15) Try.func51 rfl rfl (Nat.le_of_ble_eq_true rfl) ?_
  refine w_seq (fun K2 hK1 => ?_)
  refine w_region ?_
  refine w_pure want_none (y_assign (v := _) rfl rfl) rfl ?_
  refine w_nil ?_
  refine q_then (hK1 _ _ ?_)
  refine w_seq (fun K4 hK3 => ?_)
  refine w_region ?_
  refine w_pure want_none (y_move (v := .int _ _) rfl rfl) rfl ?_
  refine w_pure want_none (y_move (v := .int _ _) rfl rfl) rfl ?_
  refine w_pure want_none (y_geq rfl rfl rfl rfl) rfl ?_
  refine w_pure want_none (y_move (v := .bool _) rfl rfl) rfl ?_
  refine w_split (fun h5 => ?_) (fun h5 => ?_)
  ·
    try simp only [Bool.not_eq_true', Bool.not_eq_false', decide_eq_true_eq, decide_eq_false_iff_not, Int.not_lt, Int.not_le] at h5
    refine w_pure (want_yes rfl rfl rfl) (y_move (v := .int _ _) rfl rfl) rfl ?_
    refine w_pure (want_yes rfl rfl rfl) (y_move (v := .int _ _) rfl rfl) rfl ?_
    refine w_pure (want_yes rfl rfl rfl) (y_leq rfl rfl rfl rfl) rfl ?_
    refine w_pure want_none (y_pickT (v := .bool _) rfl rfl rfl rfl) rfl ?_
    refine w_pure want_none (y_assign (v := .bool _) rfl rfl) rfl ?_
    refine w_nil ?_
    refine q_then (hK3 _ _ ?_)
    refine w_ret ?_
    refine q_ret (l := [.tmp 6]) (vs := [_]) rfl ⟨⟨rfl, show _ = (.bool _ : Value) from rfl⟩, trivial⟩ ?_
    exact ⟨congrArg Value.bool (by rw [Bool.eq_iff_iff]; simp [*] <;> omega), hs⟩
  ·
    try simp only [Bool.not_eq_true', Bool.not_eq_false', decide_eq_true_eq, decide_eq_false_iff_not, Int.not_lt, Int.not_le] at h5
    refine w_skipop rfl rfl rfl ?_
    refine w_skipop rfl rfl rfl ?_
    refine w_skipop rfl rfl rfl ?_
    refine w_pure want_none (y_pickF (v := _) rfl rfl rfl rfl) rfl ?_
    refine w_pure want_none (y_assign (v := .bool _) rfl rfl) rfl ?_
    refine w_nil ?_
    refine q_then (hK3 _ _ ?_)
    refine w_ret ?_
    refine q_ret (l := [.tmp 6]) (vs := [_]) rfl ⟨⟨rfl, show _ = (.bool _ : Value) from rfl⟩, trivial⟩ ?_
    exact ⟨congrArg Value.bool (by rw [Bool.eq_iff_iff]; simp [*] <;> omega), hs⟩

theorem c88 {w0 w : World} {F : List (Nat × Obj)} (a b lo hi : Int) (hs : St w0 w F) : Con Try.prog 88 [.agg #[.int .i64 a, .int .i64 b], .int .i64 lo, .int .i64 hi] w fun v w' => v = .int .i64 (ends a b lo hi) ∧ St w0 w' F := by
  refine con_of_wc (n := 26) Try.func88 rfl rfl (Nat.le_of_ble_eq_true rfl) ?_
  refine w_seq (fun K2 hK1 => ?_)
  refine w_region ?_
  refine w_box (v := .agg #[.int _ _, .int _ _]) (cs := [_, _]) want_none rfl rfl rfl hs (fun b3 w4 hs5 => ?_)
  refine w_pure want_none (y_assign (v := _) rfl rfl) rfl ?_
  refine w_nil ?_
  refine q_then (hK1 _ _ ?_)
  refine w_seq (fun K7 hK6 => ?_)
  refine w_seq (fun K9 hK8 => ?_)
  refine w_region ?_
  refine w_pure want_none (y_fieldAddr (o := 0) (i := 0) Try.underlying67 rfl Try.sizeOf3 rfl rfl rfl) rfl ?_
  refine w_pure want_none (y_load1 Try.isAgg3 hs5 rfl rfl (ats_own (i := 0) (vs := [_]) rfl rfl)) rfl ?_
  refine w_pure want_none (y_move (v := .int _ _) rfl rfl) rfl ?_
  refine w_pure want_none (y_move (v := .int _ _) rfl rfl) rfl ?_
  refine w_call want_none Try.call51 rfl rfl rfl rfl (c51 _ _ _ hs5) ?_
  rintro _ w11 ⟨rfl, hs12⟩
  refine w_pure want_none (y_not rfl rfl) rfl ?_
  refine w_pure want_none (y_move (v := .bool _) rfl rfl) rfl ?_
  refine w_split (fun h13 => ?_) (fun h13 => ?_)
  ·
    try simp only [Bool.not_eq_true', Bool.not_eq_false', decide_eq_true_eq, decide_eq_false_iff_not, Int.not_lt, Int.not_le] at h13
    refine w_skipop rfl rfl rfl ?_
    refine w_skipop rfl rfl rfl ?_
    refine w_skipop rfl rfl rfl ?_
    refine w_skipop rfl rfl rfl ?_
    refine w_skipop rfl rfl rfl ?_
    refine w_skipop rfl rfl rfl ?_
    refine w_pure want_none (y_pickT (v := _) rfl rfl rfl rfl) rfl ?_
    refine w_nil ?_
    refine q_then (hK8 _ _ ?_)
    refine w_condT rfl rfl ?_
    refine w_seq (fun K15 hK14 => ?_)
    refine w_region ?_
    refine w_pure want_none (y_assign (v := _) rfl rfl) rfl ?_
    refine w_nil ?_
    refine q_then (hK14 _ _ ?_)
    refine w_ret ?_
    refine q_then_ret ?_
    refine q_ret (l := [.tmp 6]) (vs := [_]) rfl ⟨⟨rfl, show _ = (.int _ _ : Value) from rfl⟩, trivial⟩ ?_
    exact ⟨congrArg (Value.int .i64) (by simp only [ends, out, Bool.or_eq_true, decide_eq_true_eq]; (repeat' split) <;> omega), hs12.tail⟩
  ·
    try simp only [Bool.not_eq_true', Bool.not_eq_false', decide_eq_true_eq, decide_eq_false_iff_not, Int.not_lt, Int.not_le] at h13
    refine w_pure (want_yes rfl rfl rfl) (y_fieldAddr (o := 1) (i := 1) Try.underlying67 rfl Try.sizeOf3 rfl rfl rfl) rfl ?_
    refine w_pure (want_yes rfl rfl rfl) (y_load1 Try.isAgg3 hs12 rfl rfl (ats_own (i := 0) (vs := [_]) rfl rfl)) rfl ?_
    refine w_pure (want_yes rfl rfl rfl) (y_move (v := .int _ _) rfl rfl) rfl ?_
    refine w_pure (want_yes rfl rfl rfl) (y_move (v := .int _ _) rfl rfl) rfl ?_
    refine w_call (want_yes rfl rfl rfl) Try.call51 rfl rfl rfl rfl (c51 _ _ _ hs12) ?_
    rintro _ w17 ⟨rfl, hs18⟩
    refine w_pure (want_yes rfl rfl rfl) (y_not rfl rfl) rfl ?_
    refine w_pure want_none (y_pickF (v := .bool _) rfl rfl rfl rfl) rfl ?_
    refine w_nil ?_
    refine q_then (hK8 _ _ ?_)
    refine w_cond rfl rfl (fun h19 => ?_) (fun h19 => ?_)
    ·
      try simp only [Bool.not_eq_true', Bool.not_eq_false', decide_eq_true_eq, decide_eq_false_iff_not, Int.not_lt, Int.not_le] at h19
      refine w_seq (fun K21 hK20 => ?_)
      refine w_region ?_
      refine w_pure want_none (y_assign (v := _) rfl rfl) rfl ?_
      refine w_nil ?_
      refine q_then (hK20 _ _ ?_)
      refine w_ret ?_
      refine q_then_ret ?_
      refine q_ret (l := [.tmp 6]) (vs := [_]) rfl ⟨⟨rfl, show _ = (.int _ _ : Value) from rfl⟩, trivial⟩ ?_
      exact ⟨congrArg (Value.int .i64) (by simp only [ends, out, Bool.or_eq_true, decide_eq_true_eq]; (repeat' split) <;> omega), hs18.tail⟩
    ·
      try simp only [Bool.not_eq_true', Bool.not_eq_false', decide_eq_true_eq, decide_eq_false_iff_not, Int.not_lt, Int.not_le] at h19
      refine w_skip ?_
      refine q_then (hK6 _ _ ?_)
      refine w_seq (fun K23 hK22 => ?_)
      refine w_seq (fun K25 hK24 => ?_)
      refine w_region ?_
      refine w_pure want_none (y_fieldAddr (o := 1) (i := 1) Try.underlying67 rfl Try.sizeOf3 rfl rfl rfl) rfl ?_
      refine w_pure want_none (y_load1 Try.isAgg3 hs18 rfl rfl (ats_own (i := 0) (vs := [_]) rfl rfl)) rfl ?_
      refine w_pure want_none (y_fieldAddr (o := 0) (i := 0) Try.underlying67 rfl Try.sizeOf3 rfl rfl rfl) rfl ?_
      refine w_pure want_none (y_load1 Try.isAgg3 hs18 rfl rfl (ats_own (i := 0) (vs := [_]) rfl rfl)) rfl ?_
      refine w_pure want_none (y_lss rfl rfl rfl rfl) rfl ?_
      refine w_nil ?_
      refine q_then (hK24 _ _ ?_)
      refine w_cond rfl rfl (fun h26 => ?_) (fun h26 => ?_)
      ·
        try simp only [Bool.not_eq_true', Bool.not_eq_false', decide_eq_true_eq, decide_eq_false_iff_not, Int.not_lt, Int.not_le] at h26
        refine w_seq (fun K28 hK27 => ?_)
        refine w_region ?_
        refine w_pure want_none (y_assign (v := _) rfl rfl) rfl ?_
        refine w_nil ?_
        refine q_then (hK27 _ _ ?_)
        refine w_ret ?_
        refine q_then_ret ?_
        refine q_ret (l := [.tmp 6]) (vs := [_]) rfl ⟨⟨rfl, show _ = (.int _ _ : Value) from rfl⟩, trivial⟩ ?_
        exact ⟨congrArg (Value.int .i64) (by simp only [ends, out, Bool.or_eq_true, decide_eq_true_eq]; (repeat' split) <;> omega), hs18.tail⟩
      ·
        try simp only [Bool.not_eq_true', Bool.not_eq_false', decide_eq_true_eq, decide_eq_false_iff_not, Int.not_lt, Int.not_le] at h26
        refine w_skip ?_
        refine q_then (hK22 _ _ ?_)
        refine w_seq (fun K30 hK29 => ?_)
        refine w_region ?_
        refine w_pure want_none (y_assign (v := _) rfl rfl) rfl ?_
        refine w_nil ?_
        refine q_then (hK29 _ _ ?_)
        refine w_ret ?_
        refine q_ret (l := [.tmp 6]) (vs := [_]) rfl ⟨⟨rfl, show _ = (.int _ _ : Value) from rfl⟩, trivial⟩ ?_
        exact ⟨congrArg (Value.int .i64) (by simp only [ends, out, Bool.or_eq_true, decide_eq_true_eq]; (repeat' split) <;> omega), hs18.tail⟩

theorem less_at (a b : List Int) (i : Nat) (h : a.take i = b.take i) (ha : i ≤ a.length) (hb : i ≤ b.length) : less a b = less (a.drop i) (b.drop i) := by
  induction i generalizing a b with
  | zero => rfl
  | succ i ih =>
    cases a with
    | nil => simp at ha
    | cons x a =>
      cases b with
      | nil => simp at hb
      | cons y b =>
        simp only [List.take_succ_cons, List.cons.injEq] at h
        obtain ⟨rfl, h⟩ := h
        simp only [less, if_true, List.drop_succ_cons]
        exact ih a b h (by simpa using ha) (by simpa using hb)
theorem take_snoc_eq {a b : List Int} {i : Nat} (h : a.take i = b.take i) (ha : i < a.length) (hb : i < b.length) (e : a[i] = b[i]) : a.take (i + 1) = b.take (i + 1) := by
  rw [List.take_succ_eq_append_getElem ha, List.take_succ_eq_append_getElem hb, h, e]
theorem less_end {a b : List Int} {i : Nat} (h : a.take i = b.take i) (ha : i ≤ a.length) (hb : i = b.length) : less a b = false := by
  rw [less_at a b i h ha (by omega), hb, List.drop_length]
  cases a.drop b.length <;> rfl
theorem less_short {a b : List Int} {i : Nat} (h : a.take i = b.take i) (ha : i = a.length) (hb : i < b.length) : less a b = true := by
  rw [less_at a b i h (by omega) (by omega), ha, List.drop_length]
  have : b.drop a.length = b[a.length] :: b.drop (a.length + 1) := List.drop_eq_getElem_cons (by omega)
  rw [this]; rfl
theorem less_here {a b : List Int} {i : Nat} (h : a.take i = b.take i) (ha : i < a.length) (hb : i < b.length) (hne : a[i] ≠ b[i]) : less a b = decide (a[i] < b[i]) := by
  rw [less_at a b i h (by omega) (by omega), List.drop_eq_getElem_cons ha, List.drop_eq_getElem_cons hb]
  simp only [less]
  rw [if_neg hne]
theorem sl_ints {w0 : World} {F : List (Nat × Obj)} {a : Option Addr} {l : List Int} {i : Nat} (h : Sl w0 F a 1 (l.map fun x => [Value.int .i64 x])) (hi : i < l.length) :
    ∃ b off, a = some ⟨b, off, none⟩ ∧ Ats w0 F b (off + i * 1) [.int .i64 l[i]] := by
  obtain ⟨b, off, ha, _, hat⟩ := h.at (i := i) (row := [.int .i64 l[i]]) (by simp [hi])
  exact ⟨b, off, ha, hat⟩
theorem c42 {w0 w : World} {F : List (Nat × Obj)} (aa ab : Option Addr) (a b : List Int) (ca cb : Nat) (hla : a.length ≤ 9223372036854775807) (ha : Sl w0 F aa 1 (a.map fun x => [Value.int .i64 x])) (hb : Sl w0 F ab 1 (b.map fun x => [Value.int .i64 x])) (hs : St w0 w F) :
  Con Try.prog 42 [.slice aa a.length ca, .slice ab b.length cb] w fun v w' => v = .bool (less a b) ∧ St w0 w' F := by
  refine con_of_wc (n := 48) Try.func42 rfl rfl (Nat.le_of_ble_eq_true rfl) ?_
  refine w_seq (fun K2 hK1 => ?_)
  refine w_region ?_
  refine w_pure want_none (y_assign (v := _) rfl rfl) rfl ?_
  refine w_nil ?_
  refine q_then (hK1 _ _ ?_)
  refine w_seq (fun K4 hK3 => ?_)
  refine w_region ?_
  refine w_pure want_none (y_assign (v := _) rfl rfl) rfl ?_
  refine w_nil ?_
  refine q_then (hK3 _ _ ?_)
  refine w_seq (fun K6 hK5 => ?_)
  refine w_block ?_
  refine w_loop [5, 6, 7, 8, 9, 10, 11, 12, 13, 14, 15, 16, 17, 18, 19, 20, 21, 22, 23, 24, 25, 26, 27, 28] [5] (fun k vs w => ∃ i : Nat, vs = [.int .i64 i] ∧ i ≤ a.length ∧ i ≤ b.length ∧ k = a.length - i ∧ a.take i = b.take i ∧ St w0 w F) (a.length) ?_ ?_
  ·
    exact ⟨0, rfl, by omega, by omega, by omega, rfl, hs⟩
  ·
    intro k vs μ w9 hI K8 hN7
    obtain ⟨i, rfl, hia, hib, rfl, hpre, hs⟩ := hI
    refine w_seq (fun K11 hK10 => ?_)
    refine w_seq (fun K13 hK12 => ?_)
    refine w_draw [] [(0, 0), (1, 0), (2, 0), (3, 0), (4, 0), (5, 0), (6, 0), (7, 0), (8, 0), (9, 0), (10, 0), (11, 0), (12, 0), (13, 0), (14, 1), (15, 0), (16, 0), (17, 0), (18, 1), (19, 0), (20, 0)] Try_mo (by kernel_rfl) hs (fun w14 hs15 => ?_)
    refine d_any rfl want_none rfl (fun _ => (y_move (v := .int _ _) rfl rfl)) ?_
    refine d_any rfl want_none rfl (fun _ => (y_move (v := .slice _ _ _) rfl rfl)) ?_
    refine d_any rfl want_none rfl (fun _ => (y_lenS Try.underlying30 rfl rfl)) ?_
    refine d_any rfl want_none rfl (fun _ => (y_lss rfl rfl rfl rfl)) ?_
    refine d_any rfl want_none rfl (fun _ => (y_move (v := .bool _) rfl rfl)) ?_
    refine d_split (fun h16 => ?_) (fun h16 => ?_)
    ·
      try simp only [Bool.not_eq_true', Bool.not_eq_false', decide_eq_true_eq, decide_eq_false_iff_not, Int.not_lt, Int.not_le] at h16
      refine d_any rfl (want_yes rfl rfl rfl) rfl (fun _ => (y_move (v := .int _ _) rfl rfl)) ?_
      refine d_any rfl (want_yes rfl rfl rfl) rfl (fun _ => (y_move (v := .slice _ _ _) rfl rfl)) ?_
      refine d_any rfl (want_yes rfl rfl rfl) rfl (fun _ => (y_lenS Try.underlying30 rfl rfl)) ?_
      refine d_any rfl (want_yes rfl rfl rfl) rfl (fun _ => (y_lss rfl rfl rfl rfl)) ?_
      refine d_any rfl want_none rfl (fun _ => (y_pickT (v := .bool _) rfl rfl rfl rfl)) ?_
      refine d_any rfl want_none rfl (fun _ => (y_move (v := .bool _) rfl rfl)) ?_
      refine d_split (fun h17 => ?_) (fun h17 => ?_)
      ·
        try simp only [Bool.not_eq_true', Bool.not_eq_false', decide_eq_true_eq, decide_eq_false_iff_not, Int.not_lt, Int.not_le] at h17
        refine d_any rfl (want_yes rfl rfl rfl) rfl (fun _ => (y_move (v := .slice _ _ _) rfl rfl)) ?_
        refine d_any rfl (want_yes rfl rfl rfl) rfl (fun _ => (y_move (v := .int _ _) rfl rfl)) ?_
        have hia2 : i < a.length := by omega
        have hib2 : i < b.length := by omega
        obtain ⟨ba, oa, rfl, hxa⟩ := sl_ints ha hia2
        obtain ⟨bb, ob, rfl, hxb⟩ := sl_ints hb hib2
        refine d_any rfl (want_yes rfl rfl rfl) rfl (fun _ => (y_indexS Try.underlying30 Try.sizeOf3 rfl rfl rfl rfl (i := _) rfl (by omega))) ?_
        refine d_take rfl (want_yes rfl rfl rfl) rfl hs15 (fun _ hq => (y_load1 Try.isAgg3 hq rfl rfl hxa)) ?_
        refine d_any rfl (want_yes rfl rfl rfl) rfl (fun _ => (y_move (v := .slice _ _ _) rfl rfl)) ?_
        refine d_any rfl (want_yes rfl rfl rfl) rfl (fun _ => (y_move (v := .int _ _) rfl rfl)) ?_
        refine d_any rfl (want_yes rfl rfl rfl) rfl (fun _ => (y_indexS Try.underlying30 Try.sizeOf3 rfl rfl rfl rfl (i := _) rfl (by omega))) ?_
        refine d_take rfl (want_yes rfl rfl rfl) rfl hs15 (fun _ hq => (y_load1 Try.isAgg3 hq rfl rfl hxb)) ?_
        refine d_any rfl (want_yes rfl rfl rfl) rfl (fun _ => (y_eql rfl rfl rfl rfl)) ?_
        refine d_any rfl want_none rfl (fun _ => (y_pickT (v := .bool _) rfl rfl rfl rfl)) ?_
        refine d_nil ?_
        refine q_then (hK12 _ _ ?_)
        refine w_cond rfl rfl (fun h18 => ?_) (fun h18 => ?_)
        ·
          try simp only [Bool.not_eq_true', Bool.not_eq_false', decide_eq_true_eq, decide_eq_false_iff_not, Int.not_lt, Int.not_le] at h18
          refine w_skip ?_
          refine q_then (hK10 _ _ ?_)
          refine w_block ?_
          refine w_region ?_
          refine w_pure want_none (y_move (v := .int _ _) rfl rfl) rfl ?_
          refine w_pure want_none (y_add rfl rfl rfl rfl (by omega) (by omega)) rfl ?_
          refine w_pure want_none (y_assign (v := .int _ _) rfl rfl) rfl ?_
          refine w_nil ?_
          refine q_blk_normal ?_
          refine q_then (hN7 _ _ (Nx.intro (a.length - (i + 1)) (by omega) (by repeat (first | exact agree_mix | refine agree_upd rfl ?_ | refine agree_updL rfl ?_ _ | refine agree_mixin rfl ?_)) ?_))
          exact ⟨i + 1, rfl, by omega, by omega, rfl, take_snoc_eq hpre (by omega) (by omega) (by assumption), hs15⟩
        ·
          try simp only [Bool.not_eq_true', Bool.not_eq_false', decide_eq_true_eq, decide_eq_false_iff_not, Int.not_lt, Int.not_le] at h18
          refine w_exit ?_
          refine q_then_exit ?_
          refine q_then_exit ?_
          refine q_blk_this ?_
          refine q_then (hK5 _ _ ?_)
          refine w_seq (fun K20 hK19 => ?_)
          refine w_seq (fun K22 hK21 => ?_)
          refine w_region ?_
          refine w_pure want_none (y_move (v := .int _ _) rfl rfl) rfl ?_
          refine w_pure want_none (y_move (v := .slice _ _ _) rfl rfl) rfl ?_
          refine w_pure want_none (y_lenS Try.underlying30 rfl rfl) rfl ?_
          refine w_pure want_none (y_eql rfl rfl rfl rfl) rfl ?_
          refine w_nil ?_
          refine q_then (hK21 _ _ ?_)
          refine w_cond rfl rfl (fun h23 => ?_) (fun h23 => ?_)
          ·
            try simp only [Bool.not_eq_true', Bool.not_eq_false', decide_eq_true_eq, decide_eq_false_iff_not, Int.not_lt, Int.not_le] at h23
            refine w_seq (fun K25 hK24 => ?_)
            refine w_region ?_
            refine w_pure want_none (y_assign (v := _) rfl rfl) rfl ?_
            refine w_nil ?_
            refine q_then (hK24 _ _ ?_)
            refine w_ret ?_
            refine q_then_ret ?_
            refine q_ret (l := [.tmp 4]) (vs := [_]) rfl ⟨⟨rfl, show _ = (.bool _ : Value) from rfl⟩, trivial⟩ ?_
            exact ⟨(by first | (rw [less_end hpre hia (by omega)]; rfl) | (rw [less_short hpre (by omega) (by omega)]; rfl) | (rw [less_here hpre (by omega) (by omega) (by first | assumption | omega)]; rfl)), hs15⟩
          ·
            try simp only [Bool.not_eq_true', Bool.not_eq_false', decide_eq_true_eq, decide_eq_false_iff_not, Int.not_lt, Int.not_le] at h23
            refine w_skip ?_
            refine q_then (hK19 _ _ ?_)
            refine w_seq (fun K27 hK26 => ?_)
            refine w_draw [] [(0, 0), (1, 0), (2, 0), (3, 0), (4, 0), (5, 0), (6, 0), (7, 0), (8, 1), (9, 0), (10, 0), (11, 0), (12, 1), (13, 0), (14, 0), (15, 0)] Try_mo (by kernel_rfl) hs15 (fun w28 hs29 => ?_)
            refine d_any rfl want_none rfl (fun _ => (y_move (v := .int _ _) rfl rfl)) ?_
            refine d_any rfl want_none rfl (fun _ => (y_move (v := .slice _ _ _) rfl rfl)) ?_
            refine d_any rfl want_none rfl (fun _ => (y_lenS Try.underlying30 rfl rfl)) ?_
            refine d_any rfl want_none rfl (fun _ => (y_eql rfl rfl rfl rfl)) ?_
            refine d_any rfl want_none rfl (fun _ => (y_move (v := .bool _) rfl rfl)) ?_
            refine d_split (fun h30 => ?_) (fun h30 => ?_)
            ·
              try simp only [Bool.not_eq_true', Bool.not_eq_false', decide_eq_true_eq, decide_eq_false_iff_not, Int.not_lt, Int.not_le] at h30
              refine d_skip rfl rfl rfl rfl ?_
              refine d_skip rfl rfl rfl rfl ?_
              refine d_skip rfl rfl rfl rfl ?_
              refine d_skip1 rfl rfl rfl rfl hs29 ?_
              refine d_skip rfl rfl rfl rfl ?_
              refine d_skip rfl rfl rfl rfl ?_
              refine d_skip rfl rfl rfl rfl ?_
              refine d_skip1 rfl rfl rfl rfl hs29 ?_
              refine d_skip rfl rfl rfl rfl ?_
              refine d_any rfl want_none rfl (fun _ => (y_pickT (v := _) rfl rfl rfl rfl)) ?_
              refine d_any rfl want_none rfl (fun _ => (y_assign (v := .bool _) rfl rfl)) ?_
              refine d_nil ?_
              refine q_then (hK26 _ _ ?_)
              refine w_ret ?_
              refine q_ret (l := [.tmp 4]) (vs := [_]) rfl ⟨⟨rfl, show _ = (.bool _ : Value) from rfl⟩, trivial⟩ ?_
              exact ⟨(by first | (rw [less_end hpre hia (by omega)]; rfl) | (rw [less_short hpre (by omega) (by omega)]; rfl) | (rw [less_here hpre (by omega) (by omega) (by first | assumption | omega)]; rfl)), hs29⟩
            ·
              try simp only [Bool.not_eq_true', Bool.not_eq_false', decide_eq_true_eq, decide_eq_false_iff_not, Int.not_lt, Int.not_le] at h30
              refine d_any rfl (want_yes rfl rfl rfl) rfl (fun _ => (y_move (v := .slice _ _ _) rfl rfl)) ?_
              refine d_any rfl (want_yes rfl rfl rfl) rfl (fun _ => (y_move (v := .int _ _) rfl rfl)) ?_
              refine d_any rfl (want_yes rfl rfl rfl) rfl (fun _ => (y_indexS Try.underlying30 Try.sizeOf3 rfl rfl rfl rfl (i := _) rfl (by omega))) ?_
              refine d_take rfl (want_yes rfl rfl rfl) rfl hs29 (fun _ hq => (y_load1 Try.isAgg3 hq rfl rfl hxa)) ?_
              refine d_any rfl (want_yes rfl rfl rfl) rfl (fun _ => (y_move (v := .slice _ _ _) rfl rfl)) ?_
              refine d_any rfl (want_yes rfl rfl rfl) rfl (fun _ => (y_move (v := .int _ _) rfl rfl)) ?_
              refine d_any rfl (want_yes rfl rfl rfl) rfl (fun _ => (y_indexS Try.underlying30 Try.sizeOf3 rfl rfl rfl rfl (i := _) rfl (by omega))) ?_
              refine d_take rfl (want_yes rfl rfl rfl) rfl hs29 (fun _ hq => (y_load1 Try.isAgg3 hq rfl rfl hxb)) ?_
              refine d_any rfl (want_yes rfl rfl rfl) rfl (fun _ => (y_lss rfl rfl rfl rfl)) ?_
              refine d_any rfl want_none rfl (fun _ => (y_pickF (v := .bool _) rfl rfl rfl rfl)) ?_
              refine d_any rfl want_none rfl (fun _ => (y_assign (v := .bool _) rfl rfl)) ?_
              refine d_nil ?_
              refine q_then (hK26 _ _ ?_)
              refine w_ret ?_
              refine q_ret (l := [.tmp 4]) (vs := [_]) rfl ⟨⟨rfl, show _ = (.bool _ : Value) from rfl⟩, trivial⟩ ?_
              exact ⟨(by first | (rw [less_end hpre hia (by omega)]; rfl) | (rw [less_short hpre (by omega) (by omega)]; rfl) | (rw [less_here hpre (by omega) (by omega) (by first | assumption | omega)]; rfl)), hs29⟩
      ·
        try simp only [Bool.not_eq_true', Bool.not_eq_false', decide_eq_true_eq, decide_eq_false_iff_not, Int.not_lt, Int.not_le] at h17
        refine d_skip rfl rfl rfl rfl ?_
        refine d_skip rfl rfl rfl rfl ?_
        refine d_skip rfl rfl rfl rfl ?_
        refine d_skip1 rfl rfl rfl rfl hs15 ?_
        refine d_skip rfl rfl rfl rfl ?_
        refine d_skip rfl rfl rfl rfl ?_
        refine d_skip rfl rfl rfl rfl ?_
        refine d_skip1 rfl rfl rfl rfl hs15 ?_
        refine d_skip rfl rfl rfl rfl ?_
        refine d_any rfl want_none rfl (fun _ => (y_pickF (v := _) rfl rfl rfl rfl)) ?_
        refine d_nil ?_
        refine q_then (hK12 _ _ ?_)
        refine w_condF rfl rfl ?_
        refine w_exit ?_
        refine q_then_exit ?_
        refine q_then_exit ?_
        refine q_blk_this ?_
        refine q_then (hK5 _ _ ?_)
        refine w_seq (fun K32 hK31 => ?_)
        refine w_seq (fun K34 hK33 => ?_)
        refine w_region ?_
        refine w_pure want_none (y_move (v := .int _ _) rfl rfl) rfl ?_
        refine w_pure want_none (y_move (v := .slice _ _ _) rfl rfl) rfl ?_
        refine w_pure want_none (y_lenS Try.underlying30 rfl rfl) rfl ?_
        refine w_pure want_none (y_eql rfl rfl rfl rfl) rfl ?_
        refine w_nil ?_
        refine q_then (hK33 _ _ ?_)
        refine w_cond rfl rfl (fun h35 => ?_) (fun h35 => ?_)
        ·
          try simp only [Bool.not_eq_true', Bool.not_eq_false', decide_eq_true_eq, decide_eq_false_iff_not, Int.not_lt, Int.not_le] at h35
          refine w_seq (fun K37 hK36 => ?_)
          refine w_region ?_
          refine w_pure want_none (y_assign (v := _) rfl rfl) rfl ?_
          refine w_nil ?_
          refine q_then (hK36 _ _ ?_)
          refine w_ret ?_
          refine q_then_ret ?_
          refine q_ret (l := [.tmp 4]) (vs := [_]) rfl ⟨⟨rfl, show _ = (.bool _ : Value) from rfl⟩, trivial⟩ ?_
          exact ⟨(by first | (rw [less_end hpre hia (by omega)]; rfl) | (rw [less_short hpre (by omega) (by omega)]; rfl) | (rw [less_here hpre (by omega) (by omega) (by first | assumption | omega)]; rfl)), hs15⟩
        ·
          try simp only [Bool.not_eq_true', Bool.not_eq_false', decide_eq_true_eq, decide_eq_false_iff_not, Int.not_lt, Int.not_le] at h35
          refine w_skip ?_
          refine q_then (hK31 _ _ ?_)
          refine w_seq (fun K39 hK38 => ?_)
          refine w_draw [] [(0, 0), (1, 0), (2, 0), (3, 0), (4, 0), (5, 0), (6, 0), (7, 0), (8, 1), (9, 0), (10, 0), (11, 0), (12, 1), (13, 0), (14, 0), (15, 0)] Try_mo (by kernel_rfl) hs15 (fun w40 hs41 => ?_)
          refine d_any rfl want_none rfl (fun _ => (y_move (v := .int _ _) rfl rfl)) ?_
          refine d_any rfl want_none rfl (fun _ => (y_move (v := .slice _ _ _) rfl rfl)) ?_
          refine d_any rfl want_none rfl (fun _ => (y_lenS Try.underlying30 rfl rfl)) ?_
          refine d_any rfl want_none rfl (fun _ => (y_eql rfl rfl rfl rfl)) ?_
          refine d_any rfl want_none rfl (fun _ => (y_move (v := .bool _) rfl rfl)) ?_
          refine d_split (fun h42 => ?_) (fun h42 => ?_)
          ·
            try simp only [Bool.not_eq_true', Bool.not_eq_false', decide_eq_true_eq, decide_eq_false_iff_not, Int.not_lt, Int.not_le] at h42
            refine d_skip rfl rfl rfl rfl ?_
            refine d_skip rfl rfl rfl rfl ?_
            refine d_skip rfl rfl rfl rfl ?_
            refine d_skip1 rfl rfl rfl rfl hs41 ?_
            refine d_skip rfl rfl rfl rfl ?_
            refine d_skip rfl rfl rfl rfl ?_
            refine d_skip rfl rfl rfl rfl ?_
            refine d_skip1 rfl rfl rfl rfl hs41 ?_
            refine d_skip rfl rfl rfl rfl ?_
            refine d_any rfl want_none rfl (fun _ => (y_pickT (v := _) rfl rfl rfl rfl)) ?_
            refine d_any rfl want_none rfl (fun _ => (y_assign (v := .bool _) rfl rfl)) ?_
            refine d_nil ?_
            refine q_then (hK38 _ _ ?_)
            refine w_ret ?_
            refine q_ret (l := [.tmp 4]) (vs := [_]) rfl ⟨⟨rfl, show _ = (.bool _ : Value) from rfl⟩, trivial⟩ ?_
            exact ⟨(by first | (rw [less_end hpre hia (by omega)]; rfl) | (rw [less_short hpre (by omega) (by omega)]; rfl) | (rw [less_here hpre (by omega) (by omega) (by first | assumption | omega)]; rfl)), hs41⟩
          ·
            try simp only [Bool.not_eq_true', Bool.not_eq_false', decide_eq_true_eq, decide_eq_false_iff_not, Int.not_lt, Int.not_le] at h42
            refine d_any rfl (want_yes rfl rfl rfl) rfl (fun _ => (y_move (v := .slice _ _ _) rfl rfl)) ?_
            refine d_any rfl (want_yes rfl rfl rfl) rfl (fun _ => (y_move (v := .int _ _) rfl rfl)) ?_
            have hia2 : i < a.length := by omega
            have hib2 : i < b.length := by omega
            obtain ⟨ba, oa, rfl, hxa⟩ := sl_ints ha hia2
            obtain ⟨bb, ob, rfl, hxb⟩ := sl_ints hb hib2
            refine d_any rfl (want_yes rfl rfl rfl) rfl (fun _ => (y_indexS Try.underlying30 Try.sizeOf3 rfl rfl rfl rfl (i := _) rfl (by omega))) ?_
            refine d_take rfl (want_yes rfl rfl rfl) rfl hs41 (fun _ hq => (y_load1 Try.isAgg3 hq rfl rfl hxa)) ?_
            refine d_any rfl (want_yes rfl rfl rfl) rfl (fun _ => (y_move (v := .slice _ _ _) rfl rfl)) ?_
            refine d_any rfl (want_yes rfl rfl rfl) rfl (fun _ => (y_move (v := .int _ _) rfl rfl)) ?_
            refine d_any rfl (want_yes rfl rfl rfl) rfl (fun _ => (y_indexS Try.underlying30 Try.sizeOf3 rfl rfl rfl rfl (i := _) rfl (by omega))) ?_
            refine d_take rfl (want_yes rfl rfl rfl) rfl hs41 (fun _ hq => (y_load1 Try.isAgg3 hq rfl rfl hxb)) ?_
            refine d_any rfl (want_yes rfl rfl rfl) rfl (fun _ => (y_lss rfl rfl rfl rfl)) ?_
            refine d_any rfl want_none rfl (fun _ => (y_pickF (v := .bool _) rfl rfl rfl rfl)) ?_
            refine d_any rfl want_none rfl (fun _ => (y_assign (v := .bool _) rfl rfl)) ?_
            refine d_nil ?_
            refine q_then (hK38 _ _ ?_)
            refine w_ret ?_
            refine q_ret (l := [.tmp 4]) (vs := [_]) rfl ⟨⟨rfl, show _ = (.bool _ : Value) from rfl⟩, trivial⟩ ?_
            exact ⟨(by first | (rw [less_end hpre hia (by omega)]; rfl) | (rw [less_short hpre (by omega) (by omega)]; rfl) | (rw [less_here hpre (by omega) (by omega) (by first | assumption | omega)]; rfl)), hs41⟩
    ·
      try simp only [Bool.not_eq_true', Bool.not_eq_false', decide_eq_true_eq, decide_eq_false_iff_not, Int.not_lt, Int.not_le] at h16
      refine d_skip rfl rfl rfl rfl ?_
      refine d_skip rfl rfl rfl rfl ?_
      refine d_skip rfl rfl rfl rfl ?_
      refine d_skip rfl rfl rfl rfl ?_
      refine d_any rfl want_none rfl (fun _ => (y_pickF (v := _) rfl rfl rfl rfl)) ?_
      refine d_any rfl want_none rfl (fun _ => (y_move (v := .bool _) rfl rfl)) ?_
      refine d_skip rfl rfl rfl rfl ?_
      refine d_skip rfl rfl rfl rfl ?_
      refine d_skip rfl rfl rfl rfl ?_
      refine d_skip1 rfl rfl rfl rfl hs15 ?_
      refine d_skip rfl rfl rfl rfl ?_
      refine d_skip rfl rfl rfl rfl ?_
      refine d_skip rfl rfl rfl rfl ?_
      refine d_skip1 rfl rfl rfl rfl hs15 ?_
      refine d_skip rfl rfl rfl rfl ?_
      refine d_any rfl want_none rfl (fun _ => (y_pickF (v := _) rfl rfl rfl rfl)) ?_
      refine d_nil ?_
      refine q_then (hK12 _ _ ?_)
      refine w_condF rfl rfl ?_
      refine w_exit ?_
      refine q_then_exit ?_
      refine q_then_exit ?_
      refine q_blk_this ?_
      refine q_then (hK5 _ _ ?_)
      refine w_seq (fun K44 hK43 => ?_)
      refine w_seq (fun K46 hK45 => ?_)
      refine w_region ?_
      refine w_pure want_none (y_move (v := .int _ _) rfl rfl) rfl ?_
      refine w_pure want_none (y_move (v := .slice _ _ _) rfl rfl) rfl ?_
      refine w_pure want_none (y_lenS Try.underlying30 rfl rfl) rfl ?_
      refine w_pure want_none (y_eql rfl rfl rfl rfl) rfl ?_
      refine w_nil ?_
      refine q_then (hK45 _ _ ?_)
      refine w_cond rfl rfl (fun h47 => ?_) (fun h47 => ?_)
      ·
        try simp only [Bool.not_eq_true', Bool.not_eq_false', decide_eq_true_eq, decide_eq_false_iff_not, Int.not_lt, Int.not_le] at h47
        refine w_seq (fun K49 hK48 => ?_)
        refine w_region ?_
        refine w_pure want_none (y_assign (v := _) rfl rfl) rfl ?_
        refine w_nil ?_
        refine q_then (hK48 _ _ ?_)
        refine w_ret ?_
        refine q_then_ret ?_
        refine q_ret (l := [.tmp 4]) (vs := [_]) rfl ⟨⟨rfl, show _ = (.bool _ : Value) from rfl⟩, trivial⟩ ?_
        exact ⟨(by first | (rw [less_end hpre hia (by omega)]; rfl) | (rw [less_short hpre (by omega) (by omega)]; rfl) | (rw [less_here hpre (by omega) (by omega) (by first | assumption | omega)]; rfl)), hs15⟩
      ·
        try simp only [Bool.not_eq_true', Bool.not_eq_false', decide_eq_true_eq, decide_eq_false_iff_not, Int.not_lt, Int.not_le] at h47
        refine w_skip ?_
        refine q_then (hK43 _ _ ?_)
        refine w_seq (fun K51 hK50 => ?_)
        refine w_draw [] [(0, 0), (1, 0), (2, 0), (3, 0), (4, 0), (5, 0), (6, 0), (7, 0), (8, 1), (9, 0), (10, 0), (11, 0), (12, 1), (13, 0), (14, 0), (15, 0)] Try_mo (by kernel_rfl) hs15 (fun w52 hs53 => ?_)
        refine d_any rfl want_none rfl (fun _ => (y_move (v := .int _ _) rfl rfl)) ?_
        refine d_any rfl want_none rfl (fun _ => (y_move (v := .slice _ _ _) rfl rfl)) ?_
        refine d_any rfl want_none rfl (fun _ => (y_lenS Try.underlying30 rfl rfl)) ?_
        refine d_any rfl want_none rfl (fun _ => (y_eql rfl rfl rfl rfl)) ?_
        refine d_any rfl want_none rfl (fun _ => (y_move (v := .bool _) rfl rfl)) ?_
        refine d_split (fun h54 => ?_) (fun h54 => ?_)
        ·
          try simp only [Bool.not_eq_true', Bool.not_eq_false', decide_eq_true_eq, decide_eq_false_iff_not, Int.not_lt, Int.not_le] at h54
          refine d_skip rfl rfl rfl rfl ?_
          refine d_skip rfl rfl rfl rfl ?_
          refine d_skip rfl rfl rfl rfl ?_
          refine d_skip1 rfl rfl rfl rfl hs53 ?_
          refine d_skip rfl rfl rfl rfl ?_
          refine d_skip rfl rfl rfl rfl ?_
          refine d_skip rfl rfl rfl rfl ?_
          refine d_skip1 rfl rfl rfl rfl hs53 ?_
          refine d_skip rfl rfl rfl rfl ?_
          refine d_any rfl want_none rfl (fun _ => (y_pickT (v := _) rfl rfl rfl rfl)) ?_
          refine d_any rfl want_none rfl (fun _ => (y_assign (v := .bool _) rfl rfl)) ?_
          refine d_nil ?_
          refine q_then (hK50 _ _ ?_)
          refine w_ret ?_
          refine q_ret (l := [.tmp 4]) (vs := [_]) rfl ⟨⟨rfl, show _ = (.bool _ : Value) from rfl⟩, trivial⟩ ?_
          exact ⟨(by first | (rw [less_end hpre hia (by omega)]; rfl) | (rw [less_short hpre (by omega) (by omega)]; rfl) | (rw [less_here hpre (by omega) (by omega) (by first | assumption | omega)]; rfl)), hs53⟩
        ·
          try simp only [Bool.not_eq_true', Bool.not_eq_false', decide_eq_true_eq, decide_eq_false_iff_not, Int.not_lt, Int.not_le] at h54
          refine d_any rfl (want_yes rfl rfl rfl) rfl (fun _ => (y_move (v := .slice _ _ _) rfl rfl)) ?_
          refine d_any rfl (want_yes rfl rfl rfl) rfl (fun _ => (y_move (v := .int _ _) rfl rfl)) ?_
          have hia2 : i < a.length := by omega
          have hib2 : i < b.length := by omega
          obtain ⟨ba, oa, rfl, hxa⟩ := sl_ints ha hia2
          obtain ⟨bb, ob, rfl, hxb⟩ := sl_ints hb hib2
          refine d_any rfl (want_yes rfl rfl rfl) rfl (fun _ => (y_indexS Try.underlying30 Try.sizeOf3 rfl rfl rfl rfl (i := _) rfl (by omega))) ?_
          refine d_take rfl (want_yes rfl rfl rfl) rfl hs53 (fun _ hq => (y_load1 Try.isAgg3 hq rfl rfl hxa)) ?_
          refine d_any rfl (want_yes rfl rfl rfl) rfl (fun _ => (y_move (v := .slice _ _ _) rfl rfl)) ?_
          refine d_any rfl (want_yes rfl rfl rfl) rfl (fun _ => (y_move (v := .int _ _) rfl rfl)) ?_
          refine d_any rfl (want_yes rfl rfl rfl) rfl (fun _ => (y_indexS Try.underlying30 Try.sizeOf3 rfl rfl rfl rfl (i := _) rfl (by omega))) ?_
          refine d_take rfl (want_yes rfl rfl rfl) rfl hs53 (fun _ hq => (y_load1 Try.isAgg3 hq rfl rfl hxb)) ?_
          refine d_any rfl (want_yes rfl rfl rfl) rfl (fun _ => (y_lss rfl rfl rfl rfl)) ?_
          refine d_any rfl want_none rfl (fun _ => (y_pickF (v := .bool _) rfl rfl rfl rfl)) ?_
          refine d_any rfl want_none rfl (fun _ => (y_assign (v := .bool _) rfl rfl)) ?_
          refine d_nil ?_
          refine q_then (hK50 _ _ ?_)
          refine w_ret ?_
          refine q_ret (l := [.tmp 4]) (vs := [_]) rfl ⟨⟨rfl, show _ = (.bool _ : Value) from rfl⟩, trivial⟩ ?_
          exact ⟨(by first | (rw [less_end hpre hia (by omega)]; rfl) | (rw [less_short hpre (by omega) (by omega)]; rfl) | (rw [less_here hpre (by omega) (by omega) (by first | assumption | omega)]; rfl)), hs53⟩

theorem c20 {w0 w : World} {F : List (Nat × Obj)} (aa ab : Option Addr) (a b : List Int) (ca cb : Nat) (hla : a.length ≤ 9223372036854775807) (ha : Sl w0 F aa 1 (a.map fun x => [Value.int .i64 x])) (hb : Sl w0 F ab 1 (b.map fun x => [Value.int .i64 x])) (hs : St w0 w F) :
  Con Try.prog 20 [.slice aa a.length ca, .slice ab b.length cb] w fun v w' => v = .bool (decide (a = b)) ∧ St w0 w' F := by
  refine con_of_wc (n := 22) Try.func20 rfl rfl (Nat.le_of_ble_eq_true rfl) ?_
  refine w_seq (fun K2 hK1 => ?_)
  refine w_region ?_
  refine w_pure want_none (y_assign (v := _) rfl rfl) rfl ?_
  refine w_nil ?_
  refine q_then (hK1 _ _ ?_)
  refine w_seq (fun K4 hK3 => ?_)
  refine w_region ?_
  refine w_pure want_none (y_move (v := .slice _ _ _) rfl rfl) rfl ?_
  refine w_pure want_none (y_lenS Try.underlying30 rfl rfl) rfl ?_
  refine w_pure want_none (y_move (v := .slice _ _ _) rfl rfl) rfl ?_
  refine w_pure want_none (y_lenS Try.underlying30 rfl rfl) rfl ?_
  refine w_pure want_none (y_eql rfl rfl rfl rfl) rfl ?_
  refine w_pure want_none (y_move (v := .bool _) rfl rfl) rfl ?_
  refine w_split (fun h5 => ?_) (fun h5 => ?_)
  ·
    try simp only [Bool.not_eq_true', Bool.not_eq_false', decide_eq_true_eq, decide_eq_false_iff_not, Int.not_lt, Int.not_le] at h5
    refine w_pure (want_yes rfl rfl rfl) (y_move (v := .slice _ _ _) rfl rfl) rfl ?_
    refine w_pure (want_yes rfl rfl rfl) (y_move (v := .slice _ _ _) rfl rfl) rfl ?_
    refine w_call (want_yes rfl rfl rfl) Try.call42 rfl rfl rfl rfl (c42 _ _ _ _ _ _ (by omega) (by assumption) (by assumption) hs) ?_
    rintro _ w7 ⟨rfl, hs8⟩
    refine w_pure (want_yes rfl rfl rfl) (y_not rfl rfl) rfl ?_
    refine w_pure want_none (y_pickT (v := .bool _) rfl rfl rfl rfl) rfl ?_
    refine w_pure want_none (y_move (v := .bool _) rfl rfl) rfl ?_
    refine w_split (fun h9 => ?_) (fun h9 => ?_)
    ·
      try simp only [Bool.not_eq_true', Bool.not_eq_false', decide_eq_true_eq, decide_eq_false_iff_not, Int.not_lt, Int.not_le] at h9
      refine w_pure (want_yes rfl rfl rfl) (y_move (v := .slice _ _ _) rfl rfl) rfl ?_
      refine w_pure (want_yes rfl rfl rfl) (y_move (v := .slice _ _ _) rfl rfl) rfl ?_
      refine w_call (want_yes rfl rfl rfl) Try.call42 rfl rfl rfl rfl (c42 _ _ _ _ _ _ (by omega) (by assumption) (by assumption) hs8) ?_
      rintro _ w11 ⟨rfl, hs12⟩
      refine w_pure (want_yes rfl rfl rfl) (y_not rfl rfl) rfl ?_
      refine w_pure want_none (y_pickT (v := .bool _) rfl rfl rfl rfl) rfl ?_
      refine w_pure want_none (y_assign (v := .bool _) rfl rfl) rfl ?_
      refine w_nil ?_
      refine q_then (hK3 _ _ ?_)
      refine w_ret ?_
      refine q_ret (l := [.tmp 4]) (vs := [_]) rfl ⟨⟨rfl, show _ = (.bool _ : Value) from rfl⟩, trivial⟩ ?_
      exact ⟨congrArg Value.bool (by rw [← ints_eq, Bool.eq_iff_iff]; simp [*] <;> omega), hs12⟩
    ·
      try simp only [Bool.not_eq_true', Bool.not_eq_false', decide_eq_true_eq, decide_eq_false_iff_not, Int.not_lt, Int.not_le] at h9
      refine w_skipop rfl rfl rfl ?_
      refine w_skipop rfl rfl rfl ?_
      refine w_skipop rfl rfl rfl ?_
      refine w_skipop rfl rfl rfl ?_
      refine w_pure want_none (y_pickF (v := _) rfl rfl rfl rfl) rfl ?_
      refine w_pure want_none (y_assign (v := .bool _) rfl rfl) rfl ?_
      refine w_nil ?_
      refine q_then (hK3 _ _ ?_)
      refine w_ret ?_
      refine q_ret (l := [.tmp 4]) (vs := [_]) rfl ⟨⟨rfl, show _ = (.bool _ : Value) from rfl⟩, trivial⟩ ?_
      exact ⟨congrArg Value.bool (by rw [← ints_eq, Bool.eq_iff_iff]; simp [*] <;> omega), hs8⟩
  ·
    try simp only [Bool.not_eq_true', Bool.not_eq_false', decide_eq_true_eq, decide_eq_false_iff_not, Int.not_lt, Int.not_le] at h5
    refine w_skipop rfl rfl rfl ?_
    refine w_skipop rfl rfl rfl ?_
    refine w_skipop rfl rfl rfl ?_
    refine w_skipop rfl rfl rfl ?_
    refine w_pure want_none (y_pickF (v := _) rfl rfl rfl rfl) rfl ?_
    refine w_pure want_none (y_move (v := .bool _) rfl rfl) rfl ?_
    refine w_skipop rfl rfl rfl ?_
    refine w_skipop rfl rfl rfl ?_
    refine w_skipop rfl rfl rfl ?_
    refine w_skipop rfl rfl rfl ?_
    refine w_pure want_none (y_pickF (v := _) rfl rfl rfl rfl) rfl ?_
    refine w_pure want_none (y_assign (v := .bool _) rfl rfl) rfl ?_
    refine w_nil ?_
    refine q_then (hK3 _ _ ?_)
    refine w_ret ?_
    refine q_ret (l := [.tmp 4]) (vs := [_]) rfl ⟨⟨rfl, show _ = (.bool _ : Value) from rfl⟩, trivial⟩ ?_
    exact ⟨congrArg Value.bool (by rw [← ints_eq, Bool.eq_iff_iff]; simp [*] <;> omega), hs⟩

theorem sl_strs {w0 : World} {F : List (Nat × Obj)} {a : Option Addr} {l : List ByteArray} {i : Nat} (h : Sl w0 F a 1 (l.map fun x => [Value.string x])) (hi : i < l.length) :
    ∃ b off, a = some ⟨b, off, none⟩ ∧ Ats w0 F b (off + i * 1) [.string l[i]] := by
  obtain ⟨b, off, ha, _, hat⟩ := h.at (i := i) (row := [.string l[i]]) (by simp [hi])
  exact ⟨b, off, ha, hat⟩
theorem notmem_take {l : List ByteArray} {s : ByteArray} {i : Nat} (h : has (l.take i) s = false) (hi : i < l.length) (hne : ¬ l[i] = s) : has (l.take (i + 1)) s = false := by
  unfold has at *
  rw [List.take_succ_eq_append_getElem hi, List.any_append, h]; simp [hne]
theorem c86 {w0 w : World} {F : List (Nat × Obj)} (aa : Option Addr) (l : List ByteArray) (s : ByteArray) (ca : Nat) (hla : l.length ≤ 9223372036854775807) (ha : Sl w0 F aa 1 (l.map fun x => [Value.string x])) (hs : St w0 w F) :
  Con Try.prog 86 [.slice aa l.length ca, .string s] w fun v w' => (∃ z, v = .int .i64 z ∧ (0 ≤ z ↔ has l s = true)) ∧ St w0 w' F := by
  refine con_of_wc (n := 25) Try.func86 rfl rfl (Nat.le_of_ble_eq_true rfl) ?_
  refine w_seq (fun K2 hK1 => ?_)
  refine w_region ?_
  refine w_pure want_none (y_assign (v := _) rfl rfl) rfl ?_
  refine w_nil ?_
  refine q_then (hK1 _ _ ?_)
  refine w_seq (fun K4 hK3 => ?_)
  refine w_region ?_
  refine w_pure want_none (y_assign (v := _) rfl rfl) rfl ?_
  refine w_nil ?_
  refine q_then (hK3 _ _ ?_)
  refine w_seq (fun K6 hK5 => ?_)
  refine w_block ?_
  refine w_loop [5, 6, 7, 8, 9, 10, 11, 12, 13, 14, 15, 16, 17, 18, 19] [5] (fun k vs w => ∃ i : Nat, vs = [.int .i64 i] ∧ i ≤ l.length ∧ k = l.length - i ∧ has (l.take i) s = false ∧ St w0 w F) (l.length) ?_ ?_
  ·
    exact ⟨0, rfl, by omega, by omega, rfl, hs⟩
  ·
    intro k vs μ w9 hI K8 hN7
    obtain ⟨i, rfl, hia, rfl, hpre, hs⟩ := hI
    refine w_seq (fun K11 hK10 => ?_)
    refine w_seq (fun K13 hK12 => ?_)
    refine w_region ?_
    refine w_pure want_none (y_move (v := .int _ _) rfl rfl) rfl ?_
    refine w_pure want_none (y_move (v := .slice _ _ _) rfl rfl) rfl ?_
    refine w_pure want_none (y_lenS Try.underlying73 rfl rfl) rfl ?_
    refine w_pure want_none (y_lss rfl rfl rfl rfl) rfl ?_
    refine w_pure want_none (y_move (v := .bool _) rfl rfl) rfl ?_
    refine w_split (fun h14 => ?_) (fun h14 => ?_)
    ·
      try simp only [Bool.not_eq_true', Bool.not_eq_false', decide_eq_true_eq, decide_eq_false_iff_not, Int.not_lt, Int.not_le] at h14
      refine w_pure (want_yes rfl rfl rfl) (y_move (v := .slice _ _ _) rfl rfl) rfl ?_
      refine w_pure (want_yes rfl rfl rfl) (y_move (v := .int _ _) rfl rfl) rfl ?_
      have hi2 : i < l.length := by omega
      obtain ⟨ba, oa, rfl, hxa⟩ := sl_strs ha hi2
      refine w_pure (want_yes rfl rfl rfl) (y_indexS Try.underlying73 Try.sizeOf9 rfl rfl rfl rfl (i := _) rfl (by omega)) rfl ?_
      refine w_pure (want_yes rfl rfl rfl) (y_load1 Try.isAgg9 hs rfl rfl hxa) rfl ?_
      refine w_pure (want_yes rfl rfl rfl) (y_move (v := .string _) rfl rfl) rfl ?_
      refine w_pure (want_yes rfl rfl rfl) (y_strNe rfl rfl rfl rfl) rfl ?_
      refine w_pure want_none (y_pickT (v := .bool _) rfl rfl rfl rfl) rfl ?_
      refine w_nil ?_
      refine q_then (hK12 _ _ ?_)
      refine w_cond rfl rfl (fun h15 => ?_) (fun h15 => ?_)
      ·
        try simp only [Bool.not_eq_true', Bool.not_eq_false', decide_eq_true_eq, decide_eq_false_iff_not, Int.not_lt, Int.not_le] at h15
        refine w_skip ?_
        refine q_then (hK10 _ _ ?_)
        refine w_block ?_
        refine w_region ?_
        refine w_pure want_none (y_move (v := .int _ _) rfl rfl) rfl ?_
        refine w_pure want_none (y_add rfl rfl rfl rfl (by omega) (by omega)) rfl ?_
        refine w_pure want_none (y_assign (v := .int _ _) rfl rfl) rfl ?_
        refine w_nil ?_
        refine q_blk_normal ?_
        refine q_then (hN7 _ _ (Nx.intro (l.length - (i + 1)) (by omega) (by repeat (first | exact agree_mix | refine agree_upd rfl ?_ | refine agree_updL rfl ?_ _ | refine agree_mixin rfl ?_)) ?_))
        exact ⟨i + 1, rfl, by omega, rfl, notmem_take hpre (by omega) (by assumption), hs⟩
      ·
        try simp only [Bool.not_eq_true', Bool.not_eq_false', decide_eq_true_eq, decide_eq_false_iff_not, Int.not_lt, Int.not_le] at h15
        refine w_exit ?_
        refine q_then_exit ?_
        refine q_then_exit ?_
        refine q_blk_this ?_
        refine q_then (hK5 _ _ ?_)
        refine w_seq (fun K17 hK16 => ?_)
        refine w_seq (fun K19 hK18 => ?_)
        refine w_region ?_
        refine w_pure want_none (y_move (v := .int _ _) rfl rfl) rfl ?_
        refine w_pure want_none (y_move (v := .slice _ _ _) rfl rfl) rfl ?_
        refine w_pure want_none (y_lenS Try.underlying73 rfl rfl) rfl ?_
        refine w_pure want_none (y_eql rfl rfl rfl rfl) rfl ?_
        refine w_nil ?_
        refine q_then (hK18 _ _ ?_)
        refine w_cond rfl rfl (fun h20 => ?_) (fun h20 => ?_)
        ·
          try simp only [Bool.not_eq_true', Bool.not_eq_false', decide_eq_true_eq, decide_eq_false_iff_not, Int.not_lt, Int.not_le] at h20
          refine w_seq (fun K22 hK21 => ?_)
          refine w_region ?_
          refine w_pure want_none (y_assign (v := _) rfl rfl) rfl ?_
          refine w_nil ?_
          refine q_then (hK21 _ _ ?_)
          refine w_ret ?_
          refine q_then_ret ?_
          refine q_ret (l := [.tmp 4]) (vs := [_]) rfl ⟨⟨rfl, show _ = (.int _ _ : Value) from rfl⟩, trivial⟩ ?_
          first
            | exact ⟨⟨-1, rfl, by have hil : i = l.length := (by omega); subst hil; rw [List.take_length] at hpre; simp [hpre]⟩, hs⟩
            | exact ⟨⟨(i : Int), rfl, ⟨fun _ => (by have hi3 : i < l.length := (by omega); have he : l[i] = s := (by assumption); exact List.any_eq_true.2 ⟨_, List.getElem_mem hi3, by simp [he]⟩), fun _ => by omega⟩⟩, hs⟩
            | (exfalso; omega)
        ·
          try simp only [Bool.not_eq_true', Bool.not_eq_false', decide_eq_true_eq, decide_eq_false_iff_not, Int.not_lt, Int.not_le] at h20
          refine w_skip ?_
          refine q_then (hK16 _ _ ?_)
          refine w_seq (fun K24 hK23 => ?_)
          refine w_region ?_
          refine w_pure want_none (y_move (v := .int _ _) rfl rfl) rfl ?_
          refine w_pure want_none (y_assign (v := .int _ _) rfl rfl) rfl ?_
          refine w_nil ?_
          refine q_then (hK23 _ _ ?_)
          refine w_ret ?_
          refine q_ret (l := [.tmp 4]) (vs := [_]) rfl ⟨⟨rfl, show _ = (.int _ _ : Value) from rfl⟩, trivial⟩ ?_
          first
            | exact ⟨⟨-1, rfl, by have hil : i = l.length := (by omega); subst hil; rw [List.take_length] at hpre; simp [hpre]⟩, hs⟩
            | exact ⟨⟨(i : Int), rfl, ⟨fun _ => (by have hi3 : i < l.length := (by omega); have he : l[i] = s := (by assumption); exact List.any_eq_true.2 ⟨_, List.getElem_mem hi3, by simp [he]⟩), fun _ => by omega⟩⟩, hs⟩
            | (exfalso; omega)
    ·
      try simp only [Bool.not_eq_true', Bool.not_eq_false', decide_eq_true_eq, decide_eq_false_iff_not, Int.not_lt, Int.not_le] at h14
      refine w_skipop rfl rfl rfl ?_
      refine w_skipop rfl rfl rfl ?_
      refine w_skipop rfl rfl rfl ?_
      refine w_skipop rfl rfl rfl ?_
      refine w_skipop rfl rfl rfl ?_
      refine w_skipop rfl rfl rfl ?_
      refine w_pure want_none (y_pickF (v := _) rfl rfl rfl rfl) rfl ?_
      refine w_nil ?_
      refine q_then (hK12 _ _ ?_)
      refine w_condF rfl rfl ?_
      refine w_exit ?_
      refine q_then_exit ?_
      refine q_then_exit ?_
      refine q_blk_this ?_
      refine q_then (hK5 _ _ ?_)
      refine w_seq (fun K26 hK25 => ?_)
      refine w_seq (fun K28 hK27 => ?_)
      refine w_region ?_
      refine w_pure want_none (y_move (v := .int _ _) rfl rfl) rfl ?_
      refine w_pure want_none (y_move (v := .slice _ _ _) rfl rfl) rfl ?_
      refine w_pure want_none (y_lenS Try.underlying73 rfl rfl) rfl ?_
      refine w_pure want_none (y_eql rfl rfl rfl rfl) rfl ?_
      refine w_nil ?_
      refine q_then (hK27 _ _ ?_)
      refine w_cond rfl rfl (fun h29 => ?_) (fun h29 => ?_)
      ·
        try simp only [Bool.not_eq_true', Bool.not_eq_false', decide_eq_true_eq, decide_eq_false_iff_not, Int.not_lt, Int.not_le] at h29
        refine w_seq (fun K31 hK30 => ?_)
        refine w_region ?_
        refine w_pure want_none (y_assign (v := _) rfl rfl) rfl ?_
        refine w_nil ?_
        refine q_then (hK30 _ _ ?_)
        refine w_ret ?_
        refine q_then_ret ?_
        refine q_ret (l := [.tmp 4]) (vs := [_]) rfl ⟨⟨rfl, show _ = (.int _ _ : Value) from rfl⟩, trivial⟩ ?_
        first
          | exact ⟨⟨-1, rfl, by have hil : i = l.length := (by omega); subst hil; rw [List.take_length] at hpre; simp [hpre]⟩, hs⟩
          | exact ⟨⟨(i : Int), rfl, ⟨fun _ => (by have hi3 : i < l.length := (by omega); have he : l[i] = s := (by assumption); exact List.any_eq_true.2 ⟨_, List.getElem_mem hi3, by simp [he]⟩), fun _ => by omega⟩⟩, hs⟩
          | (exfalso; omega)
      ·
        try simp only [Bool.not_eq_true', Bool.not_eq_false', decide_eq_true_eq, decide_eq_false_iff_not, Int.not_lt, Int.not_le] at h29
        refine w_skip ?_
        refine q_then (hK25 _ _ ?_)
        refine w_seq (fun K33 hK32 => ?_)
        refine w_region ?_
        refine w_pure want_none (y_move (v := .int _ _) rfl rfl) rfl ?_
        refine w_pure want_none (y_assign (v := .int _ _) rfl rfl) rfl ?_
        refine w_nil ?_
        refine q_then (hK32 _ _ ?_)
        refine w_ret ?_
        refine q_ret (l := [.tmp 4]) (vs := [_]) rfl ⟨⟨rfl, show _ = (.int _ _ : Value) from rfl⟩, trivial⟩ ?_
        first
          | exact ⟨⟨-1, rfl, by have hil : i = l.length := (by omega); subst hil; rw [List.take_length] at hpre; simp [hpre]⟩, hs⟩
          | exact ⟨⟨(i : Int), rfl, ⟨fun _ => (by have hi3 : i < l.length := (by omega); have he : l[i] = s := (by assumption); exact List.any_eq_true.2 ⟨_, List.getElem_mem hi3, by simp [he]⟩), fun _ => by omega⟩⟩, hs⟩
          | (exfalso; omega)

theorem nmBytes_snoc (l : List UInt8) (c : UInt8) : ∀ f, nmBytes f (l ++ [c]) = (nmBytes f l && nmByte (f && l.isEmpty) c) := by
  induction l with
  | nil => intro f; simp [nmBytes]
  | cons x l ih => intro f; simp only [List.cons_append, nmBytes, ih]; simp [Bool.and_assoc]
theorem name_step (s : ByteArray) (i : Nat) (h : i < s.size) : nmBytes true (s.data.toList.take (i + 1)) = (nmBytes true (s.data.toList.take i) && nmByte (decide (i = 0)) s[i]) := by
  rw [List.take_succ_eq_append_getElem (by simpa using h), nmBytes_snoc]
  have e : (true && (s.data.toList.take i).isEmpty) = decide (i = 0) := by
    rw [Bool.eq_iff_iff]
    cases i with
    | zero => simp
    | succ i =>
      have : s.data.toList ≠ [] := by intro e; simp at e; have h2 : s.size = 0 := by rw [ByteArray.size, e]; rfl
                                      omega
      simp [this]
  rw [e]; rfl
theorem bp (x y : Bool) (k : IntKind) (a b : Int) (h1 : x = y) (h2 : a = b) : [Value.bool x, Value.int k a] = [Value.bool y, Value.int k b] := by rw [h1, h2]
theorem name_round (s : ByteArray) (i : Nat) (h : i < s.size) (x : Bool)
    (hx : x = ((decide (1 ≤ s.size) && decide (s.size ≤ 16) && nmBytes true (s.data.toList.take i)) && nmByte (decide (i = 0)) s[i])) : x = (decide (1 ≤ s.size) && decide (s.size ≤ 16) && nmBytes true (s.data.toList.take (i + 1))) := by
  rw [hx, name_step s i h, Bool.and_assoc]
theorem c87 {w0 w : World} {F : List (Nat × Obj)} (s : ByteArray) (hls : s.size ≤ 9223372036854775807) (hs : St w0 w F) :
  Con Try.prog 87 [.string s] w fun v w' => v = .bool (nmOk s) ∧ St w0 w' F := by
  refine con_of_wc (n := 42) Try.func87 rfl rfl (Nat.le_of_ble_eq_true rfl) ?_
  refine w_seq (fun K2 hK1 => ?_)
  refine w_region ?_
  refine w_pure want_none (y_assign (v := _) rfl rfl) rfl ?_
  refine w_nil ?_
  refine q_then (hK1 _ _ ?_)
  refine w_seq (fun K4 hK3 => ?_)
  refine w_region ?_
  refine w_pure want_none (y_move (v := .string _) rfl rfl) rfl ?_
  refine w_pure want_none (y_lenStr Try.underlying9 rfl rfl) rfl ?_
  refine w_call want_none Try.call51 rfl rfl rfl rfl (c51 _ _ _ hs) ?_
  rintro _ w6 ⟨rfl, hs7⟩
  refine w_pure want_none (y_assign (v := .bool _) rfl rfl) rfl ?_
  refine w_nil ?_
  refine q_then (hK3 _ _ ?_)
  refine w_seq (fun K9 hK8 => ?_)
  refine w_seq (fun K11 hK10 => ?_)
  refine w_region ?_
  refine w_pure want_none (y_assign (v := _) rfl rfl) rfl ?_
  refine w_nil ?_
  refine q_then (hK10 _ _ ?_)
  refine w_block ?_
  refine w_loop [3, 4, 5, 9, 10, 11, 12, 13, 14, 15, 16, 17, 18, 19, 20, 21, 22, 23, 24, 25, 26, 27, 28, 29, 30, 31, 32, 33, 34, 35, 36, 37, 38, 39, 40] [3, 4] (fun k vs w => ∃ i : Nat, vs = [.bool (decide (1 ≤ s.size) && decide (s.size ≤ 16) && nmBytes true (s.data.toList.take i)), .int .i64 i] ∧ i ≤ s.size ∧ k = s.size - i ∧ St w0 w F) (s.size) ?_ ?_
  ·
    exact ⟨0, bp _ _ _ _ _ (by rw [Bool.eq_iff_iff]; simp [out, nmBytes] <;> omega) rfl, by omega, by omega, hs7⟩
  ·
    intro k vs μ w14 hI K13 hN12
    obtain ⟨i, rfl, hia, rfl, hs⟩ := hI
    generalize hfine : (decide (1 ≤ s.size) && decide (s.size ≤ 16) && nmBytes true (s.data.toList.take i)) = fine
    refine w_seq (fun K16 hK15 => ?_)
    refine w_seq (fun K18 hK17 => ?_)
    refine w_region ?_
    refine w_pure want_none (y_move (v := .int _ _) rfl rfl) rfl ?_
    refine w_pure want_none (y_move (v := .string _) rfl rfl) rfl ?_
    refine w_pure want_none (y_lenStr Try.underlying9 rfl rfl) rfl ?_
    refine w_pure want_none (y_lss rfl rfl rfl rfl) rfl ?_
    refine w_nil ?_
    refine q_then (hK17 _ _ ?_)
    refine w_cond rfl rfl (fun h19 => ?_) (fun h19 => ?_)
    ·
      try simp only [Bool.not_eq_true', Bool.not_eq_false', decide_eq_true_eq, decide_eq_false_iff_not, Int.not_lt, Int.not_le] at h19
      refine w_skip ?_
      refine q_then (hK15 _ _ ?_)
      refine w_seq (fun K21 hK20 => ?_)
      refine w_block ?_
      refine w_seq (fun K23 hK22 => ?_)
      have hi2 : i < s.size := by omega
      have hc0 : (0:Int) ≤ (s[i].toNat : Int) := by omega
      have hc1 : (s[i].toNat : Int) ≤ 255 := by have := s[i].toNat_lt; omega
      refine w_region ?_
      refine w_pure want_none (y_move (v := .int _ _) rfl rfl) rfl ?_
      refine w_pure want_none (y_gtr rfl rfl rfl rfl) rfl ?_
      refine w_pure want_none (y_move (v := .bool _) rfl rfl) rfl ?_
      refine w_split (fun h24 => ?_) (fun h24 => ?_)
      ·
        try simp only [Bool.not_eq_true', Bool.not_eq_false', decide_eq_true_eq, decide_eq_false_iff_not, Int.not_lt, Int.not_le] at h24
        refine w_pure (want_yes rfl rfl rfl) (y_move (v := .string _) rfl rfl) rfl ?_
        refine w_pure (want_yes rfl rfl rfl) (y_move (v := .int _ _) rfl rfl) rfl ?_
        refine w_pure (want_yes rfl rfl rfl) (y_strIdx Try.underlying9 rfl rfl rfl rfl (i := _) rfl (by omega)) rfl ?_
        refine w_pure (want_yes rfl rfl rfl) (y_eql rfl rfl rfl rfl) rfl ?_
        refine w_pure (want_yes rfl rfl rfl) (y_move (v := .bool _) rfl rfl) rfl ?_
        refine w_split (fun h25 => ?_) (fun h25 => ?_)
        ·
          try simp only [Bool.not_eq_true', Bool.not_eq_false', decide_eq_true_eq, decide_eq_false_iff_not, Int.not_lt, Int.not_le] at h25
          refine w_skipop rfl rfl rfl ?_
          refine w_skipop rfl rfl rfl ?_
          refine w_skipop rfl rfl rfl ?_
          refine w_skipop rfl rfl rfl ?_
          refine w_skipop rfl rfl rfl ?_
          refine w_pure (want_yes rfl rfl rfl) (y_pickT (v := _) rfl rfl rfl rfl) rfl ?_
          refine w_pure want_none (y_pickT (v := .bool _) rfl rfl rfl rfl) rfl ?_
          refine w_pure want_none (y_assign (v := .bool _) rfl rfl) rfl ?_
          refine w_nil ?_
          refine q_then (hK22 _ _ ?_)
          refine w_region ?_
          refine w_pure want_none (y_move (v := .bool _) rfl rfl) rfl ?_
          refine w_pure want_none (y_move (v := .bool _) rfl rfl) rfl ?_
          refine w_split (fun h26 => ?_) (fun h26 => ?_)
          ·
            try simp only [Bool.not_eq_true', Bool.not_eq_false', decide_eq_true_eq, decide_eq_false_iff_not, Int.not_lt, Int.not_le] at h26
            refine w_pure (want_yes rfl rfl rfl) (y_move (v := .string _) rfl rfl) rfl ?_
            refine w_pure (want_yes rfl rfl rfl) (y_move (v := .int _ _) rfl rfl) rfl ?_
            refine w_pure (want_yes rfl rfl rfl) (y_strIdx Try.underlying9 rfl rfl rfl rfl (i := _) rfl (by omega)) rfl ?_
            refine w_pure (want_yes rfl rfl rfl) (y_u8int (by rw [Try.underlying5]; rfl) Try.underlying3 rfl rfl (by omega) (by omega)) rfl ?_
            refine w_call (want_yes rfl rfl rfl) Try.call51 rfl rfl rfl rfl (c51 _ _ _ hs) ?_
            rintro _ w28 ⟨rfl, hs29⟩
            refine w_pure (want_yes rfl rfl rfl) (y_move (v := .bool _) rfl rfl) rfl ?_
            refine w_split (fun h30 => ?_) (fun h30 => ?_)
            ·
              try simp only [Bool.not_eq_true', Bool.not_eq_false', decide_eq_true_eq, decide_eq_false_iff_not, Int.not_lt, Int.not_le] at h30
              refine w_skipop rfl rfl rfl ?_
              refine w_pure (want_yes rfl rfl rfl) (y_pickT (v := _) rfl rfl rfl rfl) rfl ?_
              refine w_pure want_none (y_pickT (v := .bool _) rfl rfl rfl rfl) rfl ?_
              refine w_pure want_none (y_assign (v := .bool _) rfl rfl) rfl ?_
              refine w_nil ?_
              refine q_blk_normal ?_
              refine q_then (hK20 _ _ ?_)
              refine w_region ?_
              refine w_pure want_none (y_move (v := .int _ _) rfl rfl) rfl ?_
              refine w_pure want_none (y_add rfl rfl rfl rfl (by omega) (by omega)) rfl ?_
              refine w_pure want_none (y_assign (v := .int _ _) rfl rfl) rfl ?_
              refine w_nil ?_
              refine q_then (hN12 _ _ (Nx.intro (s.size - (i + 1)) (by omega) (by repeat (first | exact agree_mix | refine agree_upd rfl ?_ | refine agree_updL rfl ?_ _ | refine agree_mixin rfl ?_)) ?_))
              exact ⟨i + 1, bp _ _ _ _ _ (name_round s i (by omega) _ (by rw [hfine, Bool.eq_iff_iff]; simp only [*]; simp [nmByte, out] <;> omega)) rfl, by omega, rfl, hs29⟩
            ·
              try simp only [Bool.not_eq_true', Bool.not_eq_false', decide_eq_true_eq, decide_eq_false_iff_not, Int.not_lt, Int.not_le] at h30
              refine w_pure (want_yes rfl rfl rfl) (y_move (v := .bool _) rfl rfl) rfl ?_
              refine w_pure (want_yes rfl rfl rfl) (y_pickF (v := .bool _) rfl rfl rfl rfl) rfl ?_
              refine w_pure want_none (y_pickT (v := .bool _) rfl rfl rfl rfl) rfl ?_
              refine w_pure want_none (y_assign (v := .bool _) rfl rfl) rfl ?_
              refine w_nil ?_
              refine q_blk_normal ?_
              refine q_then (hK20 _ _ ?_)
              refine w_region ?_
              refine w_pure want_none (y_move (v := .int _ _) rfl rfl) rfl ?_
              refine w_pure want_none (y_add rfl rfl rfl rfl (by omega) (by omega)) rfl ?_
              refine w_pure want_none (y_assign (v := .int _ _) rfl rfl) rfl ?_
              refine w_nil ?_
              refine q_then (hN12 _ _ (Nx.intro (s.size - (i + 1)) (by omega) (by repeat (first | exact agree_mix | refine agree_upd rfl ?_ | refine agree_updL rfl ?_ _ | refine agree_mixin rfl ?_)) ?_))
              exact ⟨i + 1, bp _ _ _ _ _ (name_round s i (by omega) _ (by rw [hfine, Bool.eq_iff_iff]; simp only [*]; simp [nmByte, out] <;> omega)) rfl, by omega, rfl, hs29⟩
          ·
            try simp only [Bool.not_eq_true', Bool.not_eq_false', decide_eq_true_eq, decide_eq_false_iff_not, Int.not_lt, Int.not_le] at h26
            refine w_skipop rfl rfl rfl ?_
            refine w_skipop rfl rfl rfl ?_
            refine w_skipop rfl rfl rfl ?_
            refine w_skipop rfl rfl rfl ?_
            refine w_skipop rfl rfl rfl ?_
            refine w_skipop rfl rfl rfl ?_
            refine w_skipop' rfl rfl rfl ?_
            refine w_skipop rfl rfl rfl ?_
            refine w_pure want_none (y_pickF (v := _) rfl rfl rfl rfl) rfl ?_
            refine w_pure want_none (y_assign (v := .bool _) rfl rfl) rfl ?_
            refine w_nil ?_
            refine q_blk_normal ?_
            refine q_then (hK20 _ _ ?_)
            refine w_region ?_
            refine w_pure want_none (y_move (v := .int _ _) rfl rfl) rfl ?_
            refine w_pure want_none (y_add rfl rfl rfl rfl (by omega) (by omega)) rfl ?_
            refine w_pure want_none (y_assign (v := .int _ _) rfl rfl) rfl ?_
            refine w_nil ?_
            refine q_then (hN12 _ _ (Nx.intro (s.size - (i + 1)) (by omega) (by repeat (first | exact agree_mix | refine agree_upd rfl ?_ | refine agree_updL rfl ?_ _ | refine agree_mixin rfl ?_)) ?_))
            exact ⟨i + 1, bp _ _ _ _ _ (name_round s i (by omega) _ (by rw [hfine, Bool.eq_iff_iff]; simp only [*]; simp [nmByte, out] <;> omega)) rfl, by omega, rfl, hs⟩
        ·
          try simp only [Bool.not_eq_true', Bool.not_eq_false', decide_eq_true_eq, decide_eq_false_iff_not, Int.not_lt, Int.not_le] at h25
          refine w_pure (want_yes rfl rfl rfl) (y_move (v := .string _) rfl rfl) rfl ?_
          refine w_pure (want_yes rfl rfl rfl) (y_move (v := .int _ _) rfl rfl) rfl ?_
          refine w_pure (want_yes rfl rfl rfl) (y_strIdx Try.underlying9 rfl rfl rfl rfl (i := _) rfl (by omega)) rfl ?_
          refine w_pure (want_yes rfl rfl rfl) (y_u8int (by rw [Try.underlying5]; rfl) Try.underlying3 rfl rfl (by omega) (by omega)) rfl ?_
          refine w_call (want_yes rfl rfl rfl) Try.call51 rfl rfl rfl rfl (c51 _ _ _ hs) ?_
          rintro _ w32 ⟨rfl, hs33⟩
          refine w_pure (want_yes rfl rfl rfl) (y_pickF (v := .bool _) rfl rfl rfl rfl) rfl ?_
          refine w_pure want_none (y_pickT (v := .bool _) rfl rfl rfl rfl) rfl ?_
          refine w_pure want_none (y_assign (v := .bool _) rfl rfl) rfl ?_
          refine w_nil ?_
          refine q_then (hK22 _ _ ?_)
          refine w_region ?_
          refine w_pure want_none (y_move (v := .bool _) rfl rfl) rfl ?_
          refine w_pure want_none (y_move (v := .bool _) rfl rfl) rfl ?_
          refine w_split (fun h34 => ?_) (fun h34 => ?_)
          ·
            try simp only [Bool.not_eq_true', Bool.not_eq_false', decide_eq_true_eq, decide_eq_false_iff_not, Int.not_lt, Int.not_le] at h34
            refine w_pure (want_yes rfl rfl rfl) (y_move (v := .string _) rfl rfl) rfl ?_
            refine w_pure (want_yes rfl rfl rfl) (y_move (v := .int _ _) rfl rfl) rfl ?_
            refine w_pure (want_yes rfl rfl rfl) (y_strIdx Try.underlying9 rfl rfl rfl rfl (i := _) rfl (by omega)) rfl ?_
            refine w_pure (want_yes rfl rfl rfl) (y_u8int (by rw [Try.underlying5]; rfl) Try.underlying3 rfl rfl (by omega) (by omega)) rfl ?_
            refine w_call (want_yes rfl rfl rfl) Try.call51 rfl rfl rfl rfl (c51 _ _ _ hs33) ?_
            rintro _ w36 ⟨rfl, hs37⟩
            refine w_pure (want_yes rfl rfl rfl) (y_move (v := .bool _) rfl rfl) rfl ?_
            refine w_split (fun h38 => ?_) (fun h38 => ?_)
            ·
              try simp only [Bool.not_eq_true', Bool.not_eq_false', decide_eq_true_eq, decide_eq_false_iff_not, Int.not_lt, Int.not_le] at h38
              refine w_skipop rfl rfl rfl ?_
              refine w_pure (want_yes rfl rfl rfl) (y_pickT (v := _) rfl rfl rfl rfl) rfl ?_
              refine w_pure want_none (y_pickT (v := .bool _) rfl rfl rfl rfl) rfl ?_
              refine w_pure want_none (y_assign (v := .bool _) rfl rfl) rfl ?_
              refine w_nil ?_
              refine q_blk_normal ?_
              refine q_then (hK20 _ _ ?_)
              refine w_region ?_
              refine w_pure want_none (y_move (v := .int _ _) rfl rfl) rfl ?_
              refine w_pure want_none (y_add rfl rfl rfl rfl (by omega) (by omega)) rfl ?_
              refine w_pure want_none (y_assign (v := .int _ _) rfl rfl) rfl ?_
              refine w_nil ?_
              refine q_then (hN12 _ _ (Nx.intro (s.size - (i + 1)) (by omega) (by repeat (first | exact agree_mix | refine agree_upd rfl ?_ | refine agree_updL rfl ?_ _ | refine agree_mixin rfl ?_)) ?_))
              exact ⟨i + 1, bp _ _ _ _ _ (name_round s i (by omega) _ (by rw [hfine, Bool.eq_iff_iff]; simp only [*]; simp [nmByte, out] <;> omega)) rfl, by omega, rfl, hs37⟩
            ·
              try simp only [Bool.not_eq_true', Bool.not_eq_false', decide_eq_true_eq, decide_eq_false_iff_not, Int.not_lt, Int.not_le] at h38
              refine w_pure (want_yes rfl rfl rfl) (y_move (v := .bool _) rfl rfl) rfl ?_
              refine w_pure (want_yes rfl rfl rfl) (y_pickF (v := .bool _) rfl rfl rfl rfl) rfl ?_
              refine w_pure want_none (y_pickT (v := .bool _) rfl rfl rfl rfl) rfl ?_
              refine w_pure want_none (y_assign (v := .bool _) rfl rfl) rfl ?_
              refine w_nil ?_
              refine q_blk_normal ?_
              refine q_then (hK20 _ _ ?_)
              refine w_region ?_
              refine w_pure want_none (y_move (v := .int _ _) rfl rfl) rfl ?_
              refine w_pure want_none (y_add rfl rfl rfl rfl (by omega) (by omega)) rfl ?_
              refine w_pure want_none (y_assign (v := .int _ _) rfl rfl) rfl ?_
              refine w_nil ?_
              refine q_then (hN12 _ _ (Nx.intro (s.size - (i + 1)) (by omega) (by repeat (first | exact agree_mix | refine agree_upd rfl ?_ | refine agree_updL rfl ?_ _ | refine agree_mixin rfl ?_)) ?_))
              exact ⟨i + 1, bp _ _ _ _ _ (name_round s i (by omega) _ (by rw [hfine, Bool.eq_iff_iff]; simp only [*]; simp [nmByte, out] <;> omega)) rfl, by omega, rfl, hs37⟩
          ·
            try simp only [Bool.not_eq_true', Bool.not_eq_false', decide_eq_true_eq, decide_eq_false_iff_not, Int.not_lt, Int.not_le] at h34
            refine w_skipop rfl rfl rfl ?_
            refine w_skipop rfl rfl rfl ?_
            refine w_skipop rfl rfl rfl ?_
            refine w_skipop rfl rfl rfl ?_
            refine w_skipop rfl rfl rfl ?_
            refine w_skipop rfl rfl rfl ?_
            refine w_skipop' rfl rfl rfl ?_
            refine w_skipop rfl rfl rfl ?_
            refine w_pure want_none (y_pickF (v := _) rfl rfl rfl rfl) rfl ?_
            refine w_pure want_none (y_assign (v := .bool _) rfl rfl) rfl ?_
            refine w_nil ?_
            refine q_blk_normal ?_
            refine q_then (hK20 _ _ ?_)
            refine w_region ?_
            refine w_pure want_none (y_move (v := .int _ _) rfl rfl) rfl ?_
            refine w_pure want_none (y_add rfl rfl rfl rfl (by omega) (by omega)) rfl ?_
            refine w_pure want_none (y_assign (v := .int _ _) rfl rfl) rfl ?_
            refine w_nil ?_
            refine q_then (hN12 _ _ (Nx.intro (s.size - (i + 1)) (by omega) (by repeat (first | exact agree_mix | refine agree_upd rfl ?_ | refine agree_updL rfl ?_ _ | refine agree_mixin rfl ?_)) ?_))
            exact ⟨i + 1, bp _ _ _ _ _ (name_round s i (by omega) _ (by rw [hfine, Bool.eq_iff_iff]; simp only [*]; simp [nmByte, out] <;> omega)) rfl, by omega, rfl, hs33⟩
      ·
        try simp only [Bool.not_eq_true', Bool.not_eq_false', decide_eq_true_eq, decide_eq_false_iff_not, Int.not_lt, Int.not_le] at h24
        refine w_skipop rfl rfl rfl ?_
        refine w_skipop rfl rfl rfl ?_
        refine w_skipop rfl rfl rfl ?_
        refine w_skipop rfl rfl rfl ?_
        refine w_skipop rfl rfl rfl ?_
        refine w_skipop' rfl rfl rfl ?_
        refine w_skipop' rfl rfl rfl ?_
        refine w_skipop' rfl rfl rfl ?_
        refine w_skipop' rfl rfl rfl ?_
        refine w_skipop' rfl rfl rfl ?_
        refine w_skipop rfl rfl rfl ?_
        refine w_pure want_none (y_pickF (v := _) rfl rfl rfl rfl) rfl ?_
        refine w_pure want_none (y_assign (v := .bool _) rfl rfl) rfl ?_
        refine w_nil ?_
        refine q_then (hK22 _ _ ?_)
        refine w_region ?_
        refine w_pure want_none (y_move (v := .bool _) rfl rfl) rfl ?_
        refine w_pure want_none (y_move (v := .bool _) rfl rfl) rfl ?_
        refine w_split (fun h39 => ?_) (fun h39 => ?_)
        ·
          try simp only [Bool.not_eq_true', Bool.not_eq_false', decide_eq_true_eq, decide_eq_false_iff_not, Int.not_lt, Int.not_le] at h39
          refine w_pure (want_yes rfl rfl rfl) (y_move (v := .string _) rfl rfl) rfl ?_
          refine w_pure (want_yes rfl rfl rfl) (y_move (v := .int _ _) rfl rfl) rfl ?_
          refine w_pure (want_yes rfl rfl rfl) (y_strIdx Try.underlying9 rfl rfl rfl rfl (i := _) rfl (by omega)) rfl ?_
          refine w_pure (want_yes rfl rfl rfl) (y_u8int (by rw [Try.underlying5]; rfl) Try.underlying3 rfl rfl (by omega) (by omega)) rfl ?_
          refine w_call (want_yes rfl rfl rfl) Try.call51 rfl rfl rfl rfl (c51 _ _ _ hs) ?_
          rintro _ w41 ⟨rfl, hs42⟩
          refine w_pure (want_yes rfl rfl rfl) (y_move (v := .bool _) rfl rfl) rfl ?_
          refine w_split (fun h43 => ?_) (fun h43 => ?_)
          ·
            try simp only [Bool.not_eq_true', Bool.not_eq_false', decide_eq_true_eq, decide_eq_false_iff_not, Int.not_lt, Int.not_le] at h43
            refine w_skipop rfl rfl rfl ?_
            refine w_pure (want_yes rfl rfl rfl) (y_pickT (v := _) rfl rfl rfl rfl) rfl ?_
            refine w_pure want_none (y_pickT (v := .bool _) rfl rfl rfl rfl) rfl ?_
            refine w_pure want_none (y_assign (v := .bool _) rfl rfl) rfl ?_
            refine w_nil ?_
            refine q_blk_normal ?_
            refine q_then (hK20 _ _ ?_)
            refine w_region ?_
            refine w_pure want_none (y_move (v := .int _ _) rfl rfl) rfl ?_
            refine w_pure want_none (y_add rfl rfl rfl rfl (by omega) (by omega)) rfl ?_
            refine w_pure want_none (y_assign (v := .int _ _) rfl rfl) rfl ?_
            refine w_nil ?_
            refine q_then (hN12 _ _ (Nx.intro (s.size - (i + 1)) (by omega) (by repeat (first | exact agree_mix | refine agree_upd rfl ?_ | refine agree_updL rfl ?_ _ | refine agree_mixin rfl ?_)) ?_))
            exact ⟨i + 1, bp _ _ _ _ _ (name_round s i (by omega) _ (by rw [hfine, Bool.eq_iff_iff]; simp only [*]; simp [nmByte, out] <;> omega)) rfl, by omega, rfl, hs42⟩
          ·
            try simp only [Bool.not_eq_true', Bool.not_eq_false', decide_eq_true_eq, decide_eq_false_iff_not, Int.not_lt, Int.not_le] at h43
            refine w_pure (want_yes rfl rfl rfl) (y_move (v := .bool _) rfl rfl) rfl ?_
            refine w_pure (want_yes rfl rfl rfl) (y_pickF (v := .bool _) rfl rfl rfl rfl) rfl ?_
            refine w_pure want_none (y_pickT (v := .bool _) rfl rfl rfl rfl) rfl ?_
            refine w_pure want_none (y_assign (v := .bool _) rfl rfl) rfl ?_
            refine w_nil ?_
            refine q_blk_normal ?_
            refine q_then (hK20 _ _ ?_)
            refine w_region ?_
            refine w_pure want_none (y_move (v := .int _ _) rfl rfl) rfl ?_
            refine w_pure want_none (y_add rfl rfl rfl rfl (by omega) (by omega)) rfl ?_
            refine w_pure want_none (y_assign (v := .int _ _) rfl rfl) rfl ?_
            refine w_nil ?_
            refine q_then (hN12 _ _ (Nx.intro (s.size - (i + 1)) (by omega) (by repeat (first | exact agree_mix | refine agree_upd rfl ?_ | refine agree_updL rfl ?_ _ | refine agree_mixin rfl ?_)) ?_))
            exact ⟨i + 1, bp _ _ _ _ _ (name_round s i (by omega) _ (by rw [hfine, Bool.eq_iff_iff]; simp only [*]; simp [nmByte, out] <;> omega)) rfl, by omega, rfl, hs42⟩
        ·
          try simp only [Bool.not_eq_true', Bool.not_eq_false', decide_eq_true_eq, decide_eq_false_iff_not, Int.not_lt, Int.not_le] at h39
          refine w_skipop rfl rfl rfl ?_
          refine w_skipop rfl rfl rfl ?_
          refine w_skipop rfl rfl rfl ?_
          refine w_skipop rfl rfl rfl ?_
          refine w_skipop rfl rfl rfl ?_
          refine w_skipop rfl rfl rfl ?_
          refine w_skipop' rfl rfl rfl ?_
          refine w_skipop rfl rfl rfl ?_
          refine w_pure want_none (y_pickF (v := _) rfl rfl rfl rfl) rfl ?_
          refine w_pure want_none (y_assign (v := .bool _) rfl rfl) rfl ?_
          refine w_nil ?_
          refine q_blk_normal ?_
          refine q_then (hK20 _ _ ?_)
          refine w_region ?_
          refine w_pure want_none (y_move (v := .int _ _) rfl rfl) rfl ?_
          refine w_pure want_none (y_add rfl rfl rfl rfl (by omega) (by omega)) rfl ?_
          refine w_pure want_none (y_assign (v := .int _ _) rfl rfl) rfl ?_
          refine w_nil ?_
          refine q_then (hN12 _ _ (Nx.intro (s.size - (i + 1)) (by omega) (by repeat (first | exact agree_mix | refine agree_upd rfl ?_ | refine agree_updL rfl ?_ _ | refine agree_mixin rfl ?_)) ?_))
          exact ⟨i + 1, bp _ _ _ _ _ (name_round s i (by omega) _ (by rw [hfine, Bool.eq_iff_iff]; simp only [*]; simp [nmByte, out] <;> omega)) rfl, by omega, rfl, hs⟩
    ·
      try simp only [Bool.not_eq_true', Bool.not_eq_false', decide_eq_true_eq, decide_eq_false_iff_not, Int.not_lt, Int.not_le] at h19
      refine w_exit ?_
      refine q_then_exit ?_
      refine q_then_exit ?_
      refine q_blk_this ?_
      refine q_then (hK8 _ _ ?_)
      refine w_seq (fun K45 hK44 => ?_)
      refine w_region ?_
      refine w_pure want_none (y_move (v := .bool _) rfl rfl) rfl ?_
      refine w_pure want_none (y_assign (v := .bool _) rfl rfl) rfl ?_
      refine w_nil ?_
      refine q_then (hK44 _ _ ?_)
      refine w_ret ?_
      refine q_ret (l := [.tmp 2]) (vs := [_]) rfl ⟨⟨rfl, show _ = (.bool _ : Value) from rfl⟩, trivial⟩ ?_
      exact ⟨congrArg Value.bool (by have hil : i = s.size := (by omega); subst hil; rw [← hfine]; unfold nmOk; rw [List.take_of_length_le (by simp)]), hs⟩

theorem c62 {w0 w : World} {F : List (Nat × Obj)} (s : ByteArray) (aa : Option Addr) (l : List ByteArray) (ca : Nat) (hls : s.size ≤ 9223372036854775807) (hla : l.length ≤ 9223372036854775807) (ha : Sl w0 F aa 1 (l.map fun x => [Value.string x])) (hs : St w0 w F) :
  Con Try.prog 62 [.string s, .slice aa l.length ca] w fun v w' => v = .int .i64 (if nmOk s = false then 6 else if has l s then 5 else 0) ∧ St w0 w' F := by
  refine con_of_wc (n := 14) Try.func62 rfl rfl (Nat.le_of_ble_eq_true rfl) ?_
  refine w_seq (fun K2 hK1 => ?_)
  refine w_region ?_
  refine w_pure want_none (y_assign (v := _) rfl rfl) rfl ?_
  refine w_nil ?_
  refine q_then (hK1 _ _ ?_)
  refine w_seq (fun K4 hK3 => ?_)
  refine w_region ?_
  refine w_pure want_none (y_assign (v := _) rfl rfl) rfl ?_
  refine w_nil ?_
  refine q_then (hK3 _ _ ?_)
  refine w_seq (fun K6 hK5 => ?_)
  refine w_seq (fun K8 hK7 => ?_)
  refine w_region ?_
  refine w_pure want_none (y_move (v := .slice _ _ _) rfl rfl) rfl ?_
  refine w_pure want_none (y_move (v := .string _) rfl rfl) rfl ?_
  refine w_call want_none Try.call86 rfl rfl rfl rfl (c86 _ _ _ _ (by omega) (by assumption) hs) ?_
  rintro _ w10 ⟨⟨z, rfl, hz⟩, hs11⟩
  refine w_pure want_none (y_geq rfl rfl rfl rfl) rfl ?_
  refine w_nil ?_
  refine q_then (hK7 _ _ ?_)
  refine w_cond rfl rfl (fun h12 => ?_) (fun h12 => ?_)
  ·
    try simp only [Bool.not_eq_true', Bool.not_eq_false', decide_eq_true_eq, decide_eq_false_iff_not, Int.not_lt, Int.not_le] at h12
    refine w_region ?_
    refine w_pure want_none (y_assign (v := _) rfl rfl) rfl ?_
    refine w_nil ?_
    refine q_then (hK5 _ _ ?_)
    refine w_seq (fun K14 hK13 => ?_)
    refine w_seq (fun K16 hK15 => ?_)
    refine w_region ?_
    refine w_pure want_none (y_move (v := .string _) rfl rfl) rfl ?_
    refine w_call want_none Try.call87 rfl rfl rfl rfl (c87 _ (by omega) hs11) ?_
    rintro _ w18 ⟨rfl, hs19⟩
    refine w_pure want_none (y_not rfl rfl) rfl ?_
    refine w_nil ?_
    refine q_then (hK15 _ _ ?_)
    refine w_cond rfl rfl (fun h20 => ?_) (fun h20 => ?_)
    ·
      try simp only [Bool.not_eq_true', Bool.not_eq_false', decide_eq_true_eq, decide_eq_false_iff_not, Int.not_lt, Int.not_le] at h20
      refine w_region ?_
      refine w_pure want_none (y_assign (v := _) rfl rfl) rfl ?_
      refine w_nil ?_
      refine q_then (hK13 _ _ ?_)
      refine w_seq (fun K22 hK21 => ?_)
      refine w_region ?_
      refine w_pure want_none (y_move (v := .int _ _) rfl rfl) rfl ?_
      refine w_pure want_none (y_assign (v := .int _ _) rfl rfl) rfl ?_
      refine w_nil ?_
      refine q_then (hK21 _ _ ?_)
      refine w_ret ?_
      refine q_ret (l := [.tmp 4]) (vs := [_]) rfl ⟨⟨rfl, show _ = (.int _ _ : Value) from rfl⟩, trivial⟩ ?_
      exact ⟨congrArg (Value.int .i64) (by have hz2 : has l s = decide (0 ≤ z) := (by rw [Bool.eq_iff_iff]; simp [hz]); rw [hz2]; clear hz hz2; simp [*] <;> (repeat' split) <;> omega), hs19⟩
    ·
      try simp only [Bool.not_eq_true', Bool.not_eq_false', decide_eq_true_eq, decide_eq_false_iff_not, Int.not_lt, Int.not_le] at h20
      refine w_skip ?_
      refine q_then (hK13 _ _ ?_)
      refine w_seq (fun K24 hK23 => ?_)
      refine w_region ?_
      refine w_pure want_none (y_move (v := .int _ _) rfl rfl) rfl ?_
      refine w_pure want_none (y_assign (v := .int _ _) rfl rfl) rfl ?_
      refine w_nil ?_
      refine q_then (hK23 _ _ ?_)
      refine w_ret ?_
      refine q_ret (l := [.tmp 4]) (vs := [_]) rfl ⟨⟨rfl, show _ = (.int _ _ : Value) from rfl⟩, trivial⟩ ?_
      exact ⟨congrArg (Value.int .i64) (by have hz2 : has l s = decide (0 ≤ z) := (by rw [Bool.eq_iff_iff]; simp [hz]); rw [hz2]; clear hz hz2; simp [*] <;> (repeat' split) <;> omega), hs19⟩
  ·
    try simp only [Bool.not_eq_true', Bool.not_eq_false', decide_eq_true_eq, decide_eq_false_iff_not, Int.not_lt, Int.not_le] at h12
    refine w_skip ?_
    refine q_then (hK5 _ _ ?_)
    refine w_seq (fun K26 hK25 => ?_)
    refine w_seq (fun K28 hK27 => ?_)
    refine w_region ?_
    refine w_pure want_none (y_move (v := .string _) rfl rfl) rfl ?_
    refine w_call want_none Try.call87 rfl rfl rfl rfl (c87 _ (by omega) hs11) ?_
    rintro _ w30 ⟨rfl, hs31⟩
    refine w_pure want_none (y_not rfl rfl) rfl ?_
    refine w_nil ?_
    refine q_then (hK27 _ _ ?_)
    refine w_cond rfl rfl (fun h32 => ?_) (fun h32 => ?_)
    ·
      try simp only [Bool.not_eq_true', Bool.not_eq_false', decide_eq_true_eq, decide_eq_false_iff_not, Int.not_lt, Int.not_le] at h32
      refine w_region ?_
      refine w_pure want_none (y_assign (v := _) rfl rfl) rfl ?_
      refine w_nil ?_
      refine q_then (hK25 _ _ ?_)
      refine w_seq (fun K34 hK33 => ?_)
      refine w_region ?_
      refine w_pure want_none (y_move (v := .int _ _) rfl rfl) rfl ?_
      refine w_pure want_none (y_assign (v := .int _ _) rfl rfl) rfl ?_
      refine w_nil ?_
      refine q_then (hK33 _ _ ?_)
      refine w_ret ?_
      refine q_ret (l := [.tmp 4]) (vs := [_]) rfl ⟨⟨rfl, show _ = (.int _ _ : Value) from rfl⟩, trivial⟩ ?_
      exact ⟨congrArg (Value.int .i64) (by have hz2 : has l s = decide (0 ≤ z) := (by rw [Bool.eq_iff_iff]; simp [hz]); rw [hz2]; clear hz hz2; simp [*] <;> (repeat' split) <;> omega), hs31⟩
    ·
      try simp only [Bool.not_eq_true', Bool.not_eq_false', decide_eq_true_eq, decide_eq_false_iff_not, Int.not_lt, Int.not_le] at h32
      refine w_skip ?_
      refine q_then (hK25 _ _ ?_)
      refine w_seq (fun K36 hK35 => ?_)
      refine w_region ?_
      refine w_pure want_none (y_move (v := .int _ _) rfl rfl) rfl ?_
      refine w_pure want_none (y_assign (v := .int _ _) rfl rfl) rfl ?_
      refine w_nil ?_
      refine q_then (hK35 _ _ ?_)
      refine w_ret ?_
      refine q_ret (l := [.tmp 4]) (vs := [_]) rfl ⟨⟨rfl, show _ = (.int _ _ : Value) from rfl⟩, trivial⟩ ?_
      exact ⟨congrArg (Value.int .i64) (by have hz2 : has l s = decide (0 ≤ z) := (by rw [Bool.eq_iff_iff]; simp [hz]); rw [hz2]; clear hz hz2; simp [*] <;> (repeat' split) <;> omega), hs31⟩

theorem any_take {l : List Int} {p : Int → Bool} {i : Nat} (h : (l.take i).any p = false) (hi : i < l.length) (hp : p l[i] = false) : (l.take (i + 1)).any p = false := by
  rw [List.take_succ_eq_append_getElem hi, List.any_append, h]; simp [hp]
theorem c98 {w0 w : World} {F : List (Nat × Obj)} (aa : Option Addr) (l : List Int) (ca : Nat) (hla : l.length ≤ 9223372036854775807) (ha : Sl w0 F aa 1 (l.map fun x => [Value.int .i64 x])) {fk : FuncId} (hC : CF Try.prog fk) (first captured : Array Value) (p : Int → Bool)
    (hp : ∀ x ∈ l, ∀ w, St w0 w F → Con Try.prog fk (first.toList ++ ([.int .i64 x] ++ captured.toList)) w fun v w' => v = .bool (p x) ∧ St w0 w' F) (hs : St w0 w F) :
  Con Try.prog 98 [.slice aa l.length ca, .func (.func fk) first captured] w fun v w' => (∃ z, v = .int .i64 z ∧ decide (0 ≤ z) = l.any p) ∧ St w0 w' F := by
  refine con_of_wc (n := 19) Try.func98 rfl rfl (Nat.le_of_ble_eq_true rfl) ?_
  refine w_seq (fun K2 hK1 => ?_)
  refine w_region ?_
  refine w_pure want_none (y_assign (v := _) rfl rfl) rfl ?_
  refine w_nil ?_
  refine q_then (hK1 _ _ ?_)
  refine w_seq (fun K4 hK3 => ?_)
  refine w_seq (fun K6 hK5 => ?_)
  refine w_region ?_
  refine w_pure want_none (y_move (v := .slice _ _ _) rfl rfl) rfl ?_
  refine w_pure want_none (y_lenS Try.underlying30 rfl rfl) rfl ?_
  refine w_pure want_none (y_move (v := _) rfl rfl) rfl ?_
  refine w_nil ?_
  refine q_then (hK5 _ _ ?_)
  refine w_block ?_
  refine w_loop [4, 5, 8, 9, 10, 11, 12, 13, 14, 15, 16, 17, 18] [8] (fun k vs w => ∃ i : Nat, vs = [.int .i64 i] ∧ i ≤ l.length ∧ k = l.length - i ∧ (l.take i).any p = false ∧ St w0 w F) (l.length) ?_ ?_
  ·
    exact ⟨0, rfl, by omega, by omega, by simp, hs⟩
  ·
    intro k vs μ w9 hI K8 hN7
    obtain ⟨i, rfl, hia, rfl, hpre, hs⟩ := hI
    refine w_seq (fun K11 hK10 => ?_)
    refine w_region ?_
    refine w_pure want_none (y_lss rfl rfl rfl rfl) rfl ?_
    refine w_nil ?_
    refine q_then (hK10 _ _ ?_)
    refine w_seq (fun K13 hK12 => ?_)
    refine w_cond rfl rfl (fun h14 => ?_) (fun h14 => ?_)
    ·
      try simp only [Bool.not_eq_true', Bool.not_eq_false', decide_eq_true_eq, decide_eq_false_iff_not, Int.not_lt, Int.not_le] at h14
      refine w_skip ?_
      refine q_then (hK12 _ _ ?_)
      refine w_seq (fun K16 hK15 => ?_)
      refine w_block ?_
      refine w_seq (fun K18 hK17 => ?_)
      refine w_region ?_
      refine w_pure want_none (y_move (v := .int _ _) rfl rfl) rfl ?_
      refine w_pure want_none (y_assign (v := .int _ _) rfl rfl) rfl ?_
      refine w_nil ?_
      refine q_then (hK17 _ _ ?_)
      refine w_seq (fun K20 hK19 => ?_)
      have hi2 : i < l.length := by omega
      obtain ⟨ba, oa, rfl, hxa⟩ := sl_ints ha hi2
      refine w_region ?_
      refine w_pure want_none (y_move (v := .func _ _ _) rfl rfl) rfl ?_
      refine w_pure want_none (y_move (v := .slice _ _ _) rfl rfl) rfl ?_
      refine w_pure want_none (y_move (v := .int _ _) rfl rfl) rfl ?_
      refine w_pure want_none (y_indexS Try.underlying30 Try.sizeOf3 rfl rfl rfl rfl (i := _) rfl (by omega)) rfl ?_
      refine w_pure want_none (y_load1 Try.isAgg3 hs rfl rfl hxa) rfl ?_
      refine w_call want_none hC rfl rfl rfl rfl (hp _ (List.getElem_mem hi2) _ hs) ?_
      rintro _ w22 ⟨rfl, hs23⟩
      refine w_nil ?_
      refine q_then (hK19 _ _ ?_)
      refine w_cond rfl rfl (fun h24 => ?_) (fun h24 => ?_)
      ·
        try simp only [Bool.not_eq_true', Bool.not_eq_false', decide_eq_true_eq, decide_eq_false_iff_not, Int.not_lt, Int.not_le] at h24
        refine w_seq (fun K26 hK25 => ?_)
        refine w_region ?_
        refine w_pure want_none (y_move (v := .int _ _) rfl rfl) rfl ?_
        refine w_pure want_none (y_assign (v := .int _ _) rfl rfl) rfl ?_
        refine w_nil ?_
        refine q_then (hK25 _ _ ?_)
        refine w_ret ?_
        refine q_blk_ret ?_
        refine q_then_ret ?_
        refine q_then_ret ?_
        refine q_blk_ret ?_
        refine q_then_ret ?_
        refine q_ret (l := [.tmp 4]) (vs := [_]) rfl ⟨⟨rfl, show _ = (.int _ _ : Value) from rfl⟩, trivial⟩ ?_
        first
          | exact ⟨⟨-1, rfl, by have hil : i = l.length := (by omega); subst hil; rw [List.take_length] at hpre; rw [hpre]; rfl⟩, hs23⟩
          | exact ⟨⟨(i : Int), rfl, by rw [Bool.eq_iff_iff]; simp only [decide_eq_true_eq, List.any_eq_true]; exact ⟨fun _ => ⟨_, List.getElem_mem hi2, by assumption⟩, fun _ => by omega⟩⟩, hs23⟩
      ·
        try simp only [Bool.not_eq_true', Bool.not_eq_false', decide_eq_true_eq, decide_eq_false_iff_not, Int.not_lt, Int.not_le] at h24
        refine w_skip ?_
        refine q_blk_normal ?_
        refine q_then (hK15 _ _ ?_)
        refine w_region ?_
        refine w_pure want_none (y_add rfl rfl rfl rfl (by omega) (by omega)) rfl ?_
        refine w_pure want_none (y_move (v := .int _ _) rfl rfl) rfl ?_
        refine w_nil ?_
        refine q_then (hN7 _ _ (Nx.intro (l.length - (i + 1)) (by omega) (by repeat (first | exact agree_mix | refine agree_upd rfl ?_ | refine agree_updL rfl ?_ _ | refine agree_mixin rfl ?_)) ?_))
        exact ⟨i + 1, rfl, by omega, rfl, any_take hpre (by omega) (by assumption), hs23⟩
    ·
      try simp only [Bool.not_eq_true', Bool.not_eq_false', decide_eq_true_eq, decide_eq_false_iff_not, Int.not_lt, Int.not_le] at h14
      refine w_exit ?_
      refine q_then_exit ?_
      refine q_then_exit ?_
      refine q_blk_this ?_
      refine q_then (hK3 _ _ ?_)
      refine w_seq (fun K28 hK27 => ?_)
      refine w_region ?_
      refine w_pure want_none (y_assign (v := _) rfl rfl) rfl ?_
      refine w_nil ?_
      refine q_then (hK27 _ _ ?_)
      refine w_ret ?_
      refine q_ret (l := [.tmp 4]) (vs := [_]) rfl ⟨⟨rfl, show _ = (.int _ _ : Value) from rfl⟩, trivial⟩ ?_
      first
        | exact ⟨⟨-1, rfl, by have hil : i = l.length := (by omega); subst hil; rw [List.take_length] at hpre; rw [hpre]; rfl⟩, hs⟩
        | exact ⟨⟨(i : Int), rfl, by rw [Bool.eq_iff_iff]; simp only [decide_eq_true_eq, List.any_eq_true]; exact ⟨fun _ => ⟨_, List.getElem_mem hi2, by assumption⟩, fun _ => by omega⟩⟩, hs⟩

theorem c84 {w0 w : World} {F : List (Nat × Obj)} (aa : Option Addr) (l : List Int) (ca : Nat) (hla : l.length ≤ 9223372036854775807) (ha : Sl w0 F aa 1 (l.map fun x => [Value.int .i64 x])) {fk : FuncId} (hC : CF Try.prog fk) (first captured : Array Value) (p : Int → Bool)
    (hp : ∀ x ∈ l, ∀ w, St w0 w F → Con Try.prog fk (first.toList ++ ([.int .i64 x] ++ captured.toList)) w fun v w' => v = .bool (p x) ∧ St w0 w' F) (hs : St w0 w F) :
  Con Try.prog 84 [.slice aa l.length ca, .func (.func fk) first captured] w fun v w' => v = .bool (l.any p) ∧ St w0 w' F := by
  refine con_of_wc (n := 9) Try.func84 rfl rfl (Nat.le_of_ble_eq_true rfl) ?_
  refine w_seq (fun K2 hK1 => ?_)
  refine w_region ?_
  refine w_pure want_none (y_assign (v := _) rfl rfl) rfl ?_
  refine w_nil ?_
  refine q_then (hK1 _ _ ?_)
  refine w_seq (fun K4 hK3 => ?_)
  refine w_region ?_
  refine w_pure want_none (y_move (v := .slice _ _ _) rfl rfl) rfl ?_
  refine w_pure want_none (y_move (v := .func _ _ _) rfl rfl) rfl ?_
  refine w_call want_none Try.call98 rfl rfl rfl rfl (c98 _ _ _ hla ha hC _ _ p hp hs) ?_
  rintro _ w6 ⟨⟨z, rfl, hz⟩, hs7⟩
  refine w_pure want_none (y_geq rfl rfl rfl rfl) rfl ?_
  refine w_pure want_none (y_assign (v := .bool _) rfl rfl) rfl ?_
  refine w_nil ?_
  refine q_then (hK3 _ _ ?_)
  refine w_ret ?_
  refine q_ret (l := [.tmp 4]) (vs := [_]) rfl ⟨⟨rfl, show _ = (.bool _ : Value) from rfl⟩, trivial⟩ ?_
  exact ⟨congrArg Value.bool hz, hs7⟩

theorem c85 {w0 w : World} {F : List (Nat × Obj)} (n lo hi : Int) (b1 b2 : Nat) (h1 : Ats w0 F b1 0 [.int .i64 lo]) (h2 : Ats w0 F b2 0 [.int .i64 hi]) (hs : St w0 w F) :
  Con Try.prog 85 [.int .i64 n, .pointer (some ⟨b1, 0, none⟩), .pointer (some ⟨b2, 0, none⟩)] w fun v w' => v = .bool (out lo hi n) ∧ St w0 w' F := by
  refine con_of_wc (n := 13) Try.func85 rfl rfl (Nat.le_of_ble_eq_true rfl) ?_
  refine w_seq (fun K2 hK1 => ?_)
  refine w_region ?_
  refine w_pure want_none (y_assign (v := _) rfl rfl) rfl ?_
  refine w_nil ?_
  refine q_then (hK1 _ _ ?_)
  refine w_seq (fun K4 hK3 => ?_)
  refine w_region ?_
  refine w_pure want_none (y_move (v := .int _ _) rfl rfl) rfl ?_
  refine w_pure want_none (y_load1 Try.isAgg3 hs rfl rfl h1) rfl ?_
  refine w_pure want_none (y_lss rfl rfl rfl rfl) rfl ?_
  refine w_pure want_none (y_move (v := .bool _) rfl rfl) rfl ?_
  refine w_split (fun h5 => ?_) (fun h5 => ?_)
  ·
    try simp only [Bool.not_eq_true', Bool.not_eq_false', decide_eq_true_eq, decide_eq_false_iff_not, Int.not_lt, Int.not_le] at h5
    refine w_skipop rfl rfl rfl ?_
    refine w_skipop rfl rfl rfl ?_
    refine w_skipop rfl rfl rfl ?_
    refine w_pure want_none (y_pickT (v := _) rfl rfl rfl rfl) rfl ?_
    refine w_pure want_none (y_assign (v := .bool _) rfl rfl) rfl ?_
    refine w_nil ?_
    refine q_then (hK3 _ _ ?_)
    refine w_ret ?_
    refine q_ret (l := [.tmp 4]) (vs := [_]) rfl ⟨⟨rfl, show _ = (.bool _ : Value) from rfl⟩, trivial⟩ ?_
    exact ⟨congrArg Value.bool (by rw [Bool.eq_iff_iff]; simp [out, *] <;> omega), hs⟩
  ·
    try simp only [Bool.not_eq_true', Bool.not_eq_false', decide_eq_true_eq, decide_eq_false_iff_not, Int.not_lt, Int.not_le] at h5
    refine w_pure (want_yes rfl rfl rfl) (y_move (v := .int _ _) rfl rfl) rfl ?_
    refine w_pure (want_yes rfl rfl rfl) (y_load1 Try.isAgg3 hs rfl rfl h2) rfl ?_
    refine w_pure (want_yes rfl rfl rfl) (y_gtr rfl rfl rfl rfl) rfl ?_
    refine w_pure want_none (y_pickF (v := .bool _) rfl rfl rfl rfl) rfl ?_
    refine w_pure want_none (y_assign (v := .bool _) rfl rfl) rfl ?_
    refine w_nil ?_
    refine q_then (hK3 _ _ ?_)
    refine w_ret ?_
    refine q_ret (l := [.tmp 4]) (vs := [_]) rfl ⟨⟨rfl, show _ = (.bool _ : Value) from rfl⟩, trivial⟩ ?_
    exact ⟨congrArg Value.bool (by rw [Bool.eq_iff_iff]; simp [out, *] <;> omega), hs⟩

theorem c57 {w0 w : World} {F : List (Nat × Obj)} (lo hi : Int) (aa : Option Addr) (l : List Int) (ca : Nat) (hla : l.length ≤ 9223372036854775807) (ha : Sl w0 F aa 1 (l.map fun x => [Value.int .i64 x])) (hs : St w0 w F) :
  Con Try.prog 57 [.int .i64 lo, .int .i64 hi, .slice aa l.length ca] w fun v w' => v = .bool (l.any (out lo hi)) ∧ St w0 w' F := by
  refine con_of_wc (n := 10) Try.func57 rfl rfl (Nat.le_of_ble_eq_true rfl) ?_
  refine w_seq (fun K2 hK1 => ?_)
  refine w_region ?_
  refine w_box (v := .int _ _) (cs := [_]) want_none rfl rfl rfl hs (fun b3 w4 hs5 => ?_)
  refine w_box (v := .int _ _) (cs := [_]) want_none rfl rfl rfl hs5 (fun b6 w7 hs8 => ?_)
  refine w_pure want_none (y_assign (v := _) rfl rfl) rfl ?_
  refine w_nil ?_
  refine q_then (hK1 _ _ ?_)
  refine w_seq (fun K10 hK9 => ?_)
  refine w_region ?_
  refine w_pure want_none (y_move (v := .slice _ _ _) rfl rfl) rfl ?_
  refine w_pure want_none (y_makeFunc (fv := []) (cv := [_, _]) rfl rfl rfl rfl) rfl ?_
  refine w_call want_none Try.call84 rfl rfl rfl rfl (c84 _ _ _ hla ha.cons.cons Try.call85 _ _ (out lo hi) (fun x _ w hs => c85 _ _ _ _ _ (ats_own (i := 1) (vs := [_]) rfl rfl) (ats_own (i := 0) (vs := [_]) rfl rfl) hs) hs8) ?_
  rintro _ w12 ⟨rfl, hs13⟩
  refine w_pure want_none (y_assign (v := .bool _) rfl rfl) rfl ?_
  refine w_nil ?_
  refine q_then (hK9 _ _ ?_)
  refine w_ret ?_
  refine q_ret (l := [.tmp 6]) (vs := [_]) rfl ⟨⟨rfl, show _ = (.bool _ : Value) from rfl⟩, trivial⟩ ?_
  exact ⟨rfl, hs13.tail.tail⟩

theorem c100 {w0 w : World} {F : List (Nat × Obj)} (n lo hi : Int) (b1 b2 : Nat) (h1 : Ats w0 F b1 0 [.int .i64 lo]) (h2 : Ats w0 F b2 0 [.int .i64 hi]) (hs : St w0 w F) :
  Con Try.prog 100 [.int .i64 n, .pointer (some ⟨b1, 0, none⟩), .pointer (some ⟨b2, 0, none⟩)] w fun v w' => v = .bool (out lo hi n) ∧ St w0 w' F := by
  refine con_of_wc (n := 13) Try.func100 rfl rfl (Nat.le_of_ble_eq_true rfl) ?_
  refine w_seq (fun K2 hK1 => ?_)
  refine w_region ?_
  refine w_pure want_none (y_assign (v := _) rfl rfl) rfl ?_
  refine w_nil ?_
  refine q_then (hK1 _ _ ?_)
  refine w_seq (fun K4 hK3 => ?_)
  refine w_region ?_
  refine w_pure want_none (y_move (v := .int _ _) rfl rfl) rfl ?_
  refine w_pure want_none (y_load1 Try.isAgg3 hs rfl rfl h1) rfl ?_
  refine w_pure want_none (y_lss rfl rfl rfl rfl) rfl ?_
  refine w_pure want_none (y_move (v := .bool _) rfl rfl) rfl ?_
  refine w_split (fun h5 => ?_) (fun h5 => ?_)
  ·
    try simp only [Bool.not_eq_true', Bool.not_eq_false', decide_eq_true_eq, decide_eq_false_iff_not, Int.not_lt, Int.not_le] at h5
    refine w_skipop rfl rfl rfl ?_
    refine w_skipop rfl rfl rfl ?_
    refine w_skipop rfl rfl rfl ?_
    refine w_pure want_none (y_pickT (v := _) rfl rfl rfl rfl) rfl ?_
    refine w_pure want_none (y_assign (v := .bool _) rfl rfl) rfl ?_
    refine w_nil ?_
    refine q_then (hK3 _ _ ?_)
    refine w_ret ?_
    refine q_ret (l := [.tmp 4]) (vs := [_]) rfl ⟨⟨rfl, show _ = (.bool _ : Value) from rfl⟩, trivial⟩ ?_
    exact ⟨congrArg Value.bool (by rw [Bool.eq_iff_iff]; simp [out, *] <;> omega), hs⟩
  ·
    try simp only [Bool.not_eq_true', Bool.not_eq_false', decide_eq_true_eq, decide_eq_false_iff_not, Int.not_lt, Int.not_le] at h5
    refine w_pure (want_yes rfl rfl rfl) (y_move (v := .int _ _) rfl rfl) rfl ?_
    refine w_pure (want_yes rfl rfl rfl) (y_load1 Try.isAgg3 hs rfl rfl h2) rfl ?_
    refine w_pure (want_yes rfl rfl rfl) (y_gtr rfl rfl rfl rfl) rfl ?_
    refine w_pure want_none (y_pickF (v := .bool _) rfl rfl rfl rfl) rfl ?_
    refine w_pure want_none (y_assign (v := .bool _) rfl rfl) rfl ?_
    refine w_nil ?_
    refine q_then (hK3 _ _ ?_)
    refine w_ret ?_
    refine q_ret (l := [.tmp 4]) (vs := [_]) rfl ⟨⟨rfl, show _ = (.bool _ : Value) from rfl⟩, trivial⟩ ?_
    exact ⟨congrArg Value.bool (by rw [Bool.eq_iff_iff]; simp [out, *] <;> omega), hs⟩

theorem c96 {w0 w : World} {F : List (Nat × Obj)} (lo hi : Int) (aa : Option Addr) (l : List Int) (ca : Nat) (hla : l.length ≤ 9223372036854775807) (ha : Sl w0 F aa 1 (l.map fun x => [Value.int .i64 x])) (hs : St w0 w F) :
  Con Try.prog 96 [.int .i64 lo, .int .i64 hi, .slice aa l.length ca] w fun v w' => v = .bool (l.any (out lo hi)) ∧ St w0 w' F := by
  refine con_of_wc (n := 10) Try.func96 rfl rfl (Nat.le_of_ble_eq_true rfl) ?_
  refine w_seq (fun K2 hK1 => ?_)
  refine w_region ?_
  refine w_box (v := .int _ _) (cs := [_]) want_none rfl rfl rfl hs (fun b3 w4 hs5 => ?_)
  refine w_box (v := .int _ _) (cs := [_]) want_none rfl rfl rfl hs5 (fun b6 w7 hs8 => ?_)
  refine w_pure want_none (y_assign (v := _) rfl rfl) rfl ?_
  refine w_nil ?_
  refine q_then (hK1 _ _ ?_)
  refine w_seq (fun K10 hK9 => ?_)
  refine w_region ?_
  refine w_pure want_none (y_move (v := .slice _ _ _) rfl rfl) rfl ?_
  refine w_pure want_none (y_makeFunc (fv := []) (cv := [_, _]) rfl rfl rfl rfl) rfl ?_
  refine w_call want_none Try.call84 rfl rfl rfl rfl (c84 _ _ _ hla ha.cons.cons Try.call100 _ _ (out lo hi) (fun x _ w hs => c100 _ _ _ _ _ (ats_own (i := 1) (vs := [_]) rfl rfl) (ats_own (i := 0) (vs := [_]) rfl rfl) hs) hs8) ?_
  rintro _ w12 ⟨rfl, hs13⟩
  refine w_pure want_none (y_assign (v := .bool _) rfl rfl) rfl ?_
  refine w_nil ?_
  refine q_then (hK9 _ _ ?_)
  refine w_ret ?_
  refine q_ret (l := [.tmp 6]) (vs := [_]) rfl ⟨⟨rfl, show _ = (.bool _ : Value) from rfl⟩, trivial⟩ ?_
  exact ⟨rfl, hs13.tail.tail⟩

end Go.Proofs
