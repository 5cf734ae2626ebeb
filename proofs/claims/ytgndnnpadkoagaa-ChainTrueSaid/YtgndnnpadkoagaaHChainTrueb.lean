/- Own texts of this claim, joined. No conditions. -/
import Derived.Test.YtgndnnpadkoagaaRows
import Derived.Laws.RangeAny
import Derived.Laws.Bits64b
import Derived.Test.YtgndnnpadkoagaaHChainTruea
/- Walks of this seat, printed by gen.py over the engine: what each function returns, in whatever world. No conditions but those of each contract. -/
set_option linter.unusedVariables false
set_option linter.unusedSimpArgs false
set_option maxRecDepth 20000
namespace Go.Proofs
open Go.Rt
attribute [local irreducible] WL WC Con Yd At Ats Sl Agree DW

theorem Try_mo : Try.prog.follows .mixedOrders = true := by kernel_rfl
theorem c59 {w0 w : World} {F : List (Nat × Obj)} (n lo hi : Int) (hs : St w0 w F) : Con Try.prog 59 [.int .i64 n, .int .i64 lo, .int .i64 hi] w fun v w' => v = .bool (decide (lo ≤ n ∧ n ≤ hi)) ∧ St w0 w' F := by
  refine con_of_wc (n := 15) Try.func59 rfl rfl (Nat.le_of_ble_eq_true rfl) ?_
  refine w_seq (fun K2 hK1 => ?_)
  refine w_region ?_
  refine w_p (y_assign (v := _) rfl rfl) rfl ?_
  refine w_nil ?_
  refine q_then (hK1 _ _ ?_)
  refine w_seq (fun K4 hK3 => ?_)
  refine w_region ?_
  refine w_p (y_move (v := .int _ _) rfl rfl) rfl ?_
  refine w_p (y_move (v := .int _ _) rfl rfl) rfl ?_
  refine w_p (y_geq rfl rfl rfl rfl) rfl ?_
  refine w_p (y_move (v := .bool _) rfl rfl) rfl ?_
  refine w_split (fun h5 => ?_) (fun h5 => ?_)
  ·
   try simp only [zA, zB, zC, zD, zE, zF] at h5
   refine w_y rfl rfl rfl (y_move (v := .int _ _) rfl rfl) rfl ?_
   refine w_y rfl rfl rfl (y_move (v := .int _ _) rfl rfl) rfl ?_
   refine w_y rfl rfl rfl (y_leq rfl rfl rfl rfl) rfl ?_
   refine w_p (y_pickT (v := .bool _) rfl rfl rfl rfl) rfl ?_
   refine w_p (y_assign (v := .bool _) rfl rfl) rfl ?_
   refine w_nil ?_
   refine q_then (hK3 _ _ ?_)
   refine w_ret ?_
   refine q_ret (l := [.tmp 6]) (vs := [_]) rfl ⟨⟨rfl, show _ = (.bool _ : Value) from rfl⟩, trivial⟩ ?_
   exact ⟨congrArg Value.bool (by rw [Bool.eq_iff_iff]; simp [*] <;> omega), hs⟩
  ·
   try simp only [zA, zB, zC, zD, zE, zF] at h5
   refine w_skipop rfl rfl rfl ?_
   refine w_skipop rfl rfl rfl ?_
   refine w_skipop rfl rfl rfl ?_
   refine w_p (y_pickF (v := _) rfl rfl rfl rfl) rfl ?_
   refine w_p (y_assign (v := .bool _) rfl rfl) rfl ?_
   refine w_nil ?_
   refine q_then (hK3 _ _ ?_)
   refine w_ret ?_
   refine q_ret (l := [.tmp 6]) (vs := [_]) rfl ⟨⟨rfl, show _ = (.bool _ : Value) from rfl⟩, trivial⟩ ?_
   exact ⟨congrArg Value.bool (by rw [Bool.eq_iff_iff]; simp [*] <;> omega), hs⟩

theorem c96 {w0 w : World} {F : List (Nat × Obj)} (a b lo hi : Int) (hs : St w0 w F) : Con Try.prog 96 [.agg #[.int .i64 a, .int .i64 b], .int .i64 lo, .int .i64 hi] w fun v w' => v = .int .i64 (ends a b lo hi) ∧ St w0 w' F := by
  refine con_of_wc (n := 26) Try.func96 rfl rfl (Nat.le_of_ble_eq_true rfl) ?_
  refine w_seq (fun K2 hK1 => ?_)
  refine w_region ?_
  refine w_box (v := .agg #[.int _ _, .int _ _]) (cs := [_, _]) want_none rfl rfl rfl hs (fun b3 w4 hs5 => ?_)
  refine w_p (y_assign (v := _) rfl rfl) rfl ?_
  refine w_nil ?_
  refine q_then (hK1 _ _ ?_)
  refine w_seq (fun K7 hK6 => ?_)
  refine w_seq (fun K9 hK8 => ?_)
  refine w_region ?_
  refine w_p (y_fieldAddr (o := 0) (i := 0) Try.underlying31 rfl Try.sizeOf3 rfl rfl rfl) rfl ?_
  refine w_p (y_load1 Try.isAgg3 hs5 rfl rfl (ats_own (i := 0) (vs := [_]) rfl rfl)) rfl ?_
  refine w_p (y_move (v := .int _ _) rfl rfl) rfl ?_
  refine w_p (y_move (v := .int _ _) rfl rfl) rfl ?_
  refine w_call want_none Try.call59 rfl rfl rfl rfl (c59 _ _ _ hs5) ?_
  rintro _ w11 ⟨rfl, hs12⟩
  refine w_p (y_not rfl rfl) rfl ?_
  refine w_p (y_move (v := .bool _) rfl rfl) rfl ?_
  refine w_split (fun h13 => ?_) (fun h13 => ?_)
  ·
   try simp only [zA, zB, zC, zD, zE, zF] at h13
   refine w_skipop rfl rfl rfl ?_
   refine w_skipop rfl rfl rfl ?_
   refine w_skipop rfl rfl rfl ?_
   refine w_skipop rfl rfl rfl ?_
   refine w_skipop rfl rfl rfl ?_
   refine w_skipop rfl rfl rfl ?_
   refine w_p (y_pickT (v := _) rfl rfl rfl rfl) rfl ?_
   refine w_nil ?_
   refine q_then (hK8 _ _ ?_)
   refine w_condT rfl rfl ?_
   refine w_seq (fun K15 hK14 => ?_)
   refine w_region ?_
   refine w_p (y_assign (v := _) rfl rfl) rfl ?_
   refine w_nil ?_
   refine q_then (hK14 _ _ ?_)
   refine w_ret ?_
   refine q_then_ret ?_
   refine q_ret (l := [.tmp 6]) (vs := [_]) rfl ⟨⟨rfl, show _ = (.int _ _ : Value) from rfl⟩, trivial⟩ ?_
   exact ⟨congrArg (Value.int .i64) (by simp only [ends, out, Bool.or_eq_true, decide_eq_true_eq]; (repeat' split) <;> omega), hs12.tail⟩
  ·
   try simp only [zA, zB, zC, zD, zE, zF] at h13
   refine w_y rfl rfl rfl (y_fieldAddr (o := 1) (i := 1) Try.underlying31 rfl Try.sizeOf3 rfl rfl rfl) rfl ?_
   refine w_y rfl rfl rfl (y_load1 Try.isAgg3 hs12 rfl rfl (ats_own (i := 0) (vs := [_]) rfl rfl)) rfl ?_
   refine w_y rfl rfl rfl (y_move (v := .int _ _) rfl rfl) rfl ?_
   refine w_y rfl rfl rfl (y_move (v := .int _ _) rfl rfl) rfl ?_
   refine w_call (want_yes rfl rfl rfl) Try.call59 rfl rfl rfl rfl (c59 _ _ _ hs12) ?_
   rintro _ w17 ⟨rfl, hs18⟩
   refine w_y rfl rfl rfl (y_not rfl rfl) rfl ?_
   refine w_p (y_pickF (v := .bool _) rfl rfl rfl rfl) rfl ?_
   refine w_nil ?_
   refine q_then (hK8 _ _ ?_)
   refine w_cond rfl rfl (fun h19 => ?_) (fun h19 => ?_)
   ·
    try simp only [zA, zB, zC, zD, zE, zF] at h19
    refine w_seq (fun K21 hK20 => ?_)
    refine w_region ?_
    refine w_p (y_assign (v := _) rfl rfl) rfl ?_
    refine w_nil ?_
    refine q_then (hK20 _ _ ?_)
    refine w_ret ?_
    refine q_then_ret ?_
    refine q_ret (l := [.tmp 6]) (vs := [_]) rfl ⟨⟨rfl, show _ = (.int _ _ : Value) from rfl⟩, trivial⟩ ?_
    exact ⟨congrArg (Value.int .i64) (by simp only [ends, out, Bool.or_eq_true, decide_eq_true_eq]; (repeat' split) <;> omega), hs18.tail⟩
   ·
    try simp only [zA, zB, zC, zD, zE, zF] at h19
    refine w_skip ?_
    refine q_then (hK6 _ _ ?_)
    refine w_seq (fun K23 hK22 => ?_)
    refine w_seq (fun K25 hK24 => ?_)
    refine w_region ?_
    refine w_p (y_fieldAddr (o := 1) (i := 1) Try.underlying31 rfl Try.sizeOf3 rfl rfl rfl) rfl ?_
    refine w_p (y_load1 Try.isAgg3 hs18 rfl rfl (ats_own (i := 0) (vs := [_]) rfl rfl)) rfl ?_
    refine w_p (y_fieldAddr (o := 0) (i := 0) Try.underlying31 rfl Try.sizeOf3 rfl rfl rfl) rfl ?_
    refine w_p (y_load1 Try.isAgg3 hs18 rfl rfl (ats_own (i := 0) (vs := [_]) rfl rfl)) rfl ?_
    refine w_p (y_lss rfl rfl rfl rfl) rfl ?_
    refine w_nil ?_
    refine q_then (hK24 _ _ ?_)
    refine w_cond rfl rfl (fun h26 => ?_) (fun h26 => ?_)
    ·
     try simp only [zA, zB, zC, zD, zE, zF] at h26
     refine w_seq (fun K28 hK27 => ?_)
     refine w_region ?_
     refine w_p (y_assign (v := _) rfl rfl) rfl ?_
     refine w_nil ?_
     refine q_then (hK27 _ _ ?_)
     refine w_ret ?_
     refine q_then_ret ?_
     refine q_ret (l := [.tmp 6]) (vs := [_]) rfl ⟨⟨rfl, show _ = (.int _ _ : Value) from rfl⟩, trivial⟩ ?_
     exact ⟨congrArg (Value.int .i64) (by simp only [ends, out, Bool.or_eq_true, decide_eq_true_eq]; (repeat' split) <;> omega), hs18.tail⟩
    ·
     try simp only [zA, zB, zC, zD, zE, zF] at h26
     refine w_skip ?_
     refine q_then (hK22 _ _ ?_)
     refine w_seq (fun K30 hK29 => ?_)
     refine w_region ?_
     refine w_p (y_assign (v := _) rfl rfl) rfl ?_
     refine w_nil ?_
     refine q_then (hK29 _ _ ?_)
     refine w_ret ?_
     refine q_ret (l := [.tmp 6]) (vs := [_]) rfl ⟨⟨rfl, show _ = (.int _ _ : Value) from rfl⟩, trivial⟩ ?_
     exact ⟨congrArg (Value.int .i64) (by simp only [ends, out, Bool.or_eq_true, decide_eq_true_eq]; (repeat' split) <;> omega), hs18.tail⟩

theorem less_at (a b : List Int) (i : Nat) (h : a.take i = b.take i) (ha : i ≤ a.length) (hb : i ≤ b.length) : less a b = less (a.drop i) (b.drop i) := by
  induction i generalizing a b with
  | zero => rfl
  | succ i ih =>
    cases a with
    | nil => simp at ha
    | cons x a =>
      cases b with
      | nil => simp at hb
      | cons y b =>
        simp only [List.take_succ_cons, List.cons.injEq] at h
        obtain ⟨rfl, h⟩ := h
        simp only [less, if_true, List.drop_succ_cons]
        exact ih a b h (by simpa using ha) (by simpa using hb)
theorem take_snoc_eq {a b : List Int} {i : Nat} (h : a.take i = b.take i) (ha : i < a.length) (hb : i < b.length) (e : a[i] = b[i]) : a.take (i + 1) = b.take (i + 1) := by
  rw [List.take_succ_eq_append_getElem ha, List.take_succ_eq_append_getElem hb, h, e]
theorem less_end {a b : List Int} {i : Nat} (h : a.take i = b.take i) (ha : i ≤ a.length) (hb : i = b.length) : less a b = false := by
  rw [less_at a b i h ha (by omega), hb, List.drop_length]
  cases a.drop b.length <;> rfl
theorem less_short {a b : List Int} {i : Nat} (h : a.take i = b.take i) (ha : i = a.length) (hb : i < b.length) : less a b = true := by
  rw [less_at a b i h (by omega) (by omega), ha, List.drop_length]
  have : b.drop a.length = b[a.length] :: b.drop (a.length + 1) := List.drop_eq_getElem_cons (by omega)
  rw [this]; rfl
theorem less_here {a b : List Int} {i : Nat} (h : a.take i = b.take i) (ha : i < a.length) (hb : i < b.length) (hne : a[i] ≠ b[i]) : less a b = decide (a[i] < b[i]) := by
  rw [less_at a b i h (by omega) (by omega), List.drop_eq_getElem_cons ha, List.drop_eq_getElem_cons hb]
  simp only [less]
  rw [if_neg hne]
theorem sl_ints {w0 : World} {F : List (Nat × Obj)} {a : Option Addr} {l : List Int} {i : Nat} (h : Sl w0 F a 1 (l.map fun x => [Value.int .i64 x])) (hi : i < l.length) :
    ∃ b off, a = some ⟨b, off, none⟩ ∧ Ats w0 F b (off + i * 1) [.int .i64 l[i]] := by
  obtain ⟨b, off, ha, _, hat⟩ := h.at (i := i) (row := [.int .i64 l[i]]) (by simp [hi])
  exact ⟨b, off, ha, hat⟩
theorem c82 {w0 w : World} {F : List (Nat × Obj)} (aa ab : Option Addr) (a b : List Int) (ca cb : Nat) (hla : a.length ≤ 9223372036854775807) (ha : Sl w0 F aa 1 (a.map fun x => [Value.int .i64 x])) (hb : Sl w0 F ab 1 (b.map fun x => [Value.int .i64 x])) (hs : St w0 w F) :
  Con Try.prog 82 [.slice aa a.length ca, .slice ab b.length cb] w fun v w' => v = .bool (less a b) ∧ St w0 w' F := by
  refine con_of_wc (n := 48) Try.func82 rfl rfl (Nat.le_of_ble_eq_true rfl) ?_
  refine w_seq (fun K2 hK1 => ?_)
  refine w_region ?_
  refine w_p (y_assign (v := _) rfl rfl) rfl ?_
  refine w_nil ?_
  refine q_then (hK1 _ _ ?_)
  refine w_seq (fun K4 hK3 => ?_)
  refine w_region ?_
  refine w_p (y_assign (v := _) rfl rfl) rfl ?_
  refine w_nil ?_
  refine q_then (hK3 _ _ ?_)
  refine w_seq (fun K6 hK5 => ?_)
  refine w_block ?_
  refine w_loop [5, 6, 7, 8, 9, 10, 11, 12, 13, 14, 15, 16, 17, 18, 19, 20, 21, 22, 23, 24, 25, 26, 27, 28] [5] (fun k vs w => ∃ i : Nat, vs = [.int .i64 i] ∧ i ≤ a.length ∧ i ≤ b.length ∧ k = a.length - i ∧ a.take i = b.take i ∧ St w0 w F) (a.length) ?_ ?_
  ·
   exact ⟨0, rfl, by omega, by omega, by omega, rfl, hs⟩
  ·
   intro k vs μ w9 hI K8 hN7
   obtain ⟨i, rfl, hia, hib, rfl, hpre, hs⟩ := hI
   refine w_seq (fun K11 hK10 => ?_)
   refine w_seq (fun K13 hK12 => ?_)
   refine w_draw [] [(0, 0), (1, 0), (2, 0), (3, 0), (4, 0), (5, 0), (6, 0), (7, 0), (8, 0), (9, 0), (10, 0), (11, 0), (12, 0), (13, 0), (14, 1), (15, 0), (16, 0), (17, 0), (18, 1), (19, 0), (20, 0)] Try_mo (by kernel_rfl) hs (fun w14 hs15 => ?_)
   refine d_any rfl want_none rfl (fun _ => (y_move (v := .int _ _) rfl rfl)) ?_
   refine d_any rfl want_none rfl (fun _ => (y_move (v := .slice _ _ _) rfl rfl)) ?_
   refine d_any rfl want_none rfl (fun _ => (y_lenS Try.underlying39 rfl rfl)) ?_
   refine d_any rfl want_none rfl (fun _ => (y_lss rfl rfl rfl rfl)) ?_
   refine d_any rfl want_none rfl (fun _ => (y_move (v := .bool _) rfl rfl)) ?_
   refine d_split (fun h16 => ?_) (fun h16 => ?_)
   ·
    try simp only [zA, zB, zC, zD, zE, zF] at h16
    refine d_any rfl (want_yes rfl rfl rfl) rfl (fun _ => (y_move (v := .int _ _) rfl rfl)) ?_
    refine d_any rfl (want_yes rfl rfl rfl) rfl (fun _ => (y_move (v := .slice _ _ _) rfl rfl)) ?_
    refine d_any rfl (want_yes rfl rfl rfl) rfl (fun _ => (y_lenS Try.underlying39 rfl rfl)) ?_
    refine d_any rfl (want_yes rfl rfl rfl) rfl (fun _ => (y_lss rfl rfl rfl rfl)) ?_
    refine d_any rfl want_none rfl (fun _ => (y_pickT (v := .bool _) rfl rfl rfl rfl)) ?_
    refine d_any rfl want_none rfl (fun _ => (y_move (v := .bool _) rfl rfl)) ?_
    refine d_split (fun h17 => ?_) (fun h17 => ?_)
    ·
     try simp only [zA, zB, zC, zD, zE, zF] at h17
     refine d_any rfl (want_yes rfl rfl rfl) rfl (fun _ => (y_move (v := .slice _ _ _) rfl rfl)) ?_
     refine d_any rfl (want_yes rfl rfl rfl) rfl (fun _ => (y_move (v := .int _ _) rfl rfl)) ?_
     have hia2 : i < a.length := by omega
     have hib2 : i < b.length := by omega
     obtain ⟨ba, oa, rfl, hxa⟩ := sl_ints ha hia2
     obtain ⟨bb, ob, rfl, hxb⟩ := sl_ints hb hib2
     refine d_any rfl (want_yes rfl rfl rfl) rfl (fun _ => (y_indexS Try.underlying39 Try.sizeOf3 rfl rfl rfl rfl (i := _) rfl (by omega))) ?_
     refine d_take rfl (want_yes rfl rfl rfl) rfl hs15 (fun _ hq => (y_load1 Try.isAgg3 hq rfl rfl hxa)) ?_
     refine d_any rfl (want_yes rfl rfl rfl) rfl (fun _ => (y_move (v := .slice _ _ _) rfl rfl)) ?_
     refine d_any rfl (want_yes rfl rfl rfl) rfl (fun _ => (y_move (v := .int _ _) rfl rfl)) ?_
     refine d_any rfl (want_yes rfl rfl rfl) rfl (fun _ => (y_indexS Try.underlying39 Try.sizeOf3 rfl rfl rfl rfl (i := _) rfl (by omega))) ?_
     refine d_take rfl (want_yes rfl rfl rfl) rfl hs15 (fun _ hq => (y_load1 Try.isAgg3 hq rfl rfl hxb)) ?_
     refine d_any rfl (want_yes rfl rfl rfl) rfl (fun _ => (y_eql rfl rfl rfl rfl)) ?_
     refine d_any rfl want_none rfl (fun _ => (y_pickT (v := .bool _) rfl rfl rfl rfl)) ?_
     refine d_nil ?_
     refine q_then (hK12 _ _ ?_)
     refine w_cond rfl rfl (fun h18 => ?_) (fun h18 => ?_)
     ·
      try simp only [zA, zB, zC, zD, zE, zF] at h18
      refine w_skip ?_
      refine q_then (hK10 _ _ ?_)
      refine w_block ?_
      refine w_region ?_
      refine w_p (y_move (v := .int _ _) rfl rfl) rfl ?_
      refine w_p (y_add rfl rfl rfl rfl (by omega) (by omega)) rfl ?_
      refine w_p (y_assign (v := .int _ _) rfl rfl) rfl ?_
      refine w_nil ?_
      refine q_blk_normal ?_
      refine q_then (hN7 _ _ (Nx.intro (a.length - (i + 1)) (by omega) (by repeat (first | exact agree_mix | refine agree_upd rfl ?_ | refine agree_updL rfl ?_ _ | refine agree_mixin rfl ?_)) ?_))
      exact ⟨i + 1, rfl, by omega, by omega, rfl, take_snoc_eq hpre (by omega) (by omega) (by assumption), hs15⟩
     ·
      try simp only [zA, zB, zC, zD, zE, zF] at h18
      refine w_exit ?_
      refine q_then_exit ?_
      refine q_then_exit ?_
      refine q_blk_this ?_
      refine q_then (hK5 _ _ ?_)
      refine w_seq (fun K20 hK19 => ?_)
      refine w_seq (fun K22 hK21 => ?_)
      refine w_region ?_
      refine w_p (y_move (v := .int _ _) rfl rfl) rfl ?_
      refine w_p (y_move (v := .slice _ _ _) rfl rfl) rfl ?_
      refine w_p (y_lenS Try.underlying39 rfl rfl) rfl ?_
      refine w_p (y_eql rfl rfl rfl rfl) rfl ?_
      refine w_nil ?_
      refine q_then (hK21 _ _ ?_)
      refine w_cond rfl rfl (fun h23 => ?_) (fun h23 => ?_)
      ·
       try simp only [zA, zB, zC, zD, zE, zF] at h23
       refine w_seq (fun K25 hK24 => ?_)
       refine w_region ?_
       refine w_p (y_assign (v := _) rfl rfl) rfl ?_
       refine w_nil ?_
       refine q_then (hK24 _ _ ?_)
       refine w_ret ?_
       refine q_then_ret ?_
       refine q_ret (l := [.tmp 4]) (vs := [_]) rfl ⟨⟨rfl, show _ = (.bool _ : Value) from rfl⟩, trivial⟩ ?_
       exact ⟨(by first | (rw [less_end hpre hia (by omega)]; rfl) | (rw [less_short hpre (by omega) (by omega)]; rfl) | (rw [less_here hpre (by omega) (by omega) (by first | assumption | omega)]; rfl)), hs15⟩
      ·
       try simp only [zA, zB, zC, zD, zE, zF] at h23
       refine w_skip ?_
       refine q_then (hK19 _ _ ?_)
       refine w_seq (fun K27 hK26 => ?_)
       refine w_draw [] [(0, 0), (1, 0), (2, 0), (3, 0), (4, 0), (5, 0), (6, 0), (7, 0), (8, 1), (9, 0), (10, 0), (11, 0), (12, 1), (13, 0), (14, 0), (15, 0)] Try_mo (by kernel_rfl) hs15 (fun w28 hs29 => ?_)
       refine d_any rfl want_none rfl (fun _ => (y_move (v := .int _ _) rfl rfl)) ?_
       refine d_any rfl want_none rfl (fun _ => (y_move (v := .slice _ _ _) rfl rfl)) ?_
       refine d_any rfl want_none rfl (fun _ => (y_lenS Try.underlying39 rfl rfl)) ?_
       refine d_any rfl want_none rfl (fun _ => (y_eql rfl rfl rfl rfl)) ?_
       refine d_any rfl want_none rfl (fun _ => (y_move (v := .bool _) rfl rfl)) ?_
       refine d_split (fun h30 => ?_) (fun h30 => ?_)
       ·
        try simp only [zA, zB, zC, zD, zE, zF] at h30
        refine d_skip rfl rfl rfl rfl ?_
        refine d_skip rfl rfl rfl rfl ?_
        refine d_skip rfl rfl rfl rfl ?_
        refine d_skip1 rfl rfl rfl rfl hs29 ?_
        refine d_skip rfl rfl rfl rfl ?_
        refine d_skip rfl rfl rfl rfl ?_
        refine d_skip rfl rfl rfl rfl ?_
        refine d_skip1 rfl rfl rfl rfl hs29 ?_
        refine d_skip rfl rfl rfl rfl ?_
        refine d_any rfl want_none rfl (fun _ => (y_pickT (v := _) rfl rfl rfl rfl)) ?_
        refine d_any rfl want_none rfl (fun _ => (y_assign (v := .bool _) rfl rfl)) ?_
        refine d_nil ?_
        refine q_then (hK26 _ _ ?_)
        refine w_ret ?_
        refine q_ret (l := [.tmp 4]) (vs := [_]) rfl ⟨⟨rfl, show _ = (.bool _ : Value) from rfl⟩, trivial⟩ ?_
        exact ⟨(by first | (rw [less_end hpre hia (by omega)]; rfl) | (rw [less_short hpre (by omega) (by omega)]; rfl) | (rw [less_here hpre (by omega) (by omega) (by first | assumption | omega)]; rfl)), hs29⟩
       ·
        try simp only [zA, zB, zC, zD, zE, zF] at h30
        refine d_any rfl (want_yes rfl rfl rfl) rfl (fun _ => (y_move (v := .slice _ _ _) rfl rfl)) ?_
        refine d_any rfl (want_yes rfl rfl rfl) rfl (fun _ => (y_move (v := .int _ _) rfl rfl)) ?_
        refine d_any rfl (want_yes rfl rfl rfl) rfl (fun _ => (y_indexS Try.underlying39 Try.sizeOf3 rfl rfl rfl rfl (i := _) rfl (by omega))) ?_
        refine d_take rfl (want_yes rfl rfl rfl) rfl hs29 (fun _ hq => (y_load1 Try.isAgg3 hq rfl rfl hxa)) ?_
        refine d_any rfl (want_yes rfl rfl rfl) rfl (fun _ => (y_move (v := .slice _ _ _) rfl rfl)) ?_
        refine d_any rfl (want_yes rfl rfl rfl) rfl (fun _ => (y_move (v := .int _ _) rfl rfl)) ?_
        refine d_any rfl (want_yes rfl rfl rfl) rfl (fun _ => (y_indexS Try.underlying39 Try.sizeOf3 rfl rfl rfl rfl (i := _) rfl (by omega))) ?_
        refine d_take rfl (want_yes rfl rfl rfl) rfl hs29 (fun _ hq => (y_load1 Try.isAgg3 hq rfl rfl hxb)) ?_
        refine d_any rfl (want_yes rfl rfl rfl) rfl (fun _ => (y_lss rfl rfl rfl rfl)) ?_
        refine d_any rfl want_none rfl (fun _ => (y_pickF (v := .bool _) rfl rfl rfl rfl)) ?_
        refine d_any rfl want_none rfl (fun _ => (y_assign (v := .bool _) rfl rfl)) ?_
        refine d_nil ?_
        refine q_then (hK26 _ _ ?_)
        refine w_ret ?_
        refine q_ret (l := [.tmp 4]) (vs := [_]) rfl ⟨⟨rfl, show _ = (.bool _ : Value) from rfl⟩, trivial⟩ ?_
        exact ⟨(by first | (rw [less_end hpre hia (by omega)]; rfl) | (rw [less_short hpre (by omega) (by omega)]; rfl) | (rw [less_here hpre (by omega) (by omega) (by first | assumption | omega)]; rfl)), hs29⟩
    ·
     try simp only [zA, zB, zC, zD, zE, zF] at h17
     refine d_skip rfl rfl rfl rfl ?_
     refine d_skip rfl rfl rfl rfl ?_
     refine d_skip rfl rfl rfl rfl ?_
     refine d_skip1 rfl rfl rfl rfl hs15 ?_
     refine d_skip rfl rfl rfl rfl ?_
     refine d_skip rfl rfl rfl rfl ?_
     refine d_skip rfl rfl rfl rfl ?_
     refine d_skip1 rfl rfl rfl rfl hs15 ?_
     refine d_skip rfl rfl rfl rfl ?_
     refine d_any rfl want_none rfl (fun _ => (y_pickF (v := _) rfl rfl rfl rfl)) ?_
     refine d_nil ?_
     refine q_then (hK12 _ _ ?_)
     refine w_condF rfl rfl ?_
     refine w_exit ?_
     refine q_then_exit ?_
     refine q_then_exit ?_
     refine q_blk_this ?_
     refine q_then (hK5 _ _ ?_)
     refine w_seq (fun K32 hK31 => ?_)
     refine w_seq (fun K34 hK33 => ?_)
     refine w_region ?_
     refine w_p (y_move (v := .int _ _) rfl rfl) rfl ?_
     refine w_p (y_move (v := .slice _ _ _) rfl rfl) rfl ?_
     refine w_p (y_lenS Try.underlying39 rfl rfl) rfl ?_
     refine w_p (y_eql rfl rfl rfl rfl) rfl ?_
     refine w_nil ?_
     refine q_then (hK33 _ _ ?_)
     refine w_cond rfl rfl (fun h35 => ?_) (fun h35 => ?_)
     ·
      try simp only [zA, zB, zC, zD, zE, zF] at h35
      refine w_seq (fun K37 hK36 => ?_)
      refine w_region ?_
      refine w_p (y_assign (v := _) rfl rfl) rfl ?_
      refine w_nil ?_
      refine q_then (hK36 _ _ ?_)
      refine w_ret ?_
      refine q_then_ret ?_
      refine q_ret (l := [.tmp 4]) (vs := [_]) rfl ⟨⟨rfl, show _ = (.bool _ : Value) from rfl⟩, trivial⟩ ?_
      exact ⟨(by first | (rw [less_end hpre hia (by omega)]; rfl) | (rw [less_short hpre (by omega) (by omega)]; rfl) | (rw [less_here hpre (by omega) (by omega) (by first | assumption | omega)]; rfl)), hs15⟩
     ·
      try simp only [zA, zB, zC, zD, zE, zF] at h35
      refine w_skip ?_
      refine q_then (hK31 _ _ ?_)
      refine w_seq (fun K39 hK38 => ?_)
      refine w_draw [] [(0, 0), (1, 0), (2, 0), (3, 0), (4, 0), (5, 0), (6, 0), (7, 0), (8, 1), (9, 0), (10, 0), (11, 0), (12, 1), (13, 0), (14, 0), (15, 0)] Try_mo (by kernel_rfl) hs15 (fun w40 hs41 => ?_)
      refine d_any rfl want_none rfl (fun _ => (y_move (v := .int _ _) rfl rfl)) ?_
      refine d_any rfl want_none rfl (fun _ => (y_move (v := .slice _ _ _) rfl rfl)) ?_
      refine d_any rfl want_none rfl (fun _ => (y_lenS Try.underlying39 rfl rfl)) ?_
      refine d_any rfl want_none rfl (fun _ => (y_eql rfl rfl rfl rfl)) ?_
      refine d_any rfl want_none rfl (fun _ => (y_move (v := .bool _) rfl rfl)) ?_
      refine d_split (fun h42 => ?_) (fun h42 => ?_)
      ·
       try simp only [zA, zB, zC, zD, zE, zF] at h42
       refine d_skip rfl rfl rfl rfl ?_
       refine d_skip rfl rfl rfl rfl ?_
       refine d_skip rfl rfl rfl rfl ?_
       refine d_skip1 rfl rfl rfl rfl hs41 ?_
       refine d_skip rfl rfl rfl rfl ?_
       refine d_skip rfl rfl rfl rfl ?_
       refine d_skip rfl rfl rfl rfl ?_
       refine d_skip1 rfl rfl rfl rfl hs41 ?_
       refine d_skip rfl rfl rfl rfl ?_
       refine d_any rfl want_none rfl (fun _ => (y_pickT (v := _) rfl rfl rfl rfl)) ?_
       refine d_any rfl want_none rfl (fun _ => (y_assign (v := .bool _) rfl rfl)) ?_
       refine d_nil ?_
       refine q_then (hK38 _ _ ?_)
       refine w_ret ?_
       refine q_ret (l := [.tmp 4]) (vs := [_]) rfl ⟨⟨rfl, show _ = (.bool _ : Value) from rfl⟩, trivial⟩ ?_
       exact ⟨(by first | (rw [less_end hpre hia (by omega)]; rfl) | (rw [less_short hpre (by omega) (by omega)]; rfl) | (rw [less_here hpre (by omega) (by omega) (by first | assumption | omega)]; rfl)), hs41⟩
      ·
       try simp only [zA, zB, zC, zD, zE, zF] at h42
       refine d_any rfl (want_yes rfl rfl rfl) rfl (fun _ => (y_move (v := .slice _ _ _) rfl rfl)) ?_
       refine d_any rfl (want_yes rfl rfl rfl) rfl (fun _ => (y_move (v := .int _ _) rfl rfl)) ?_
       have hia2 : i < a.length := by omega
       have hib2 : i < b.length := by omega
       obtain ⟨ba, oa, rfl, hxa⟩ := sl_ints ha hia2
       obtain ⟨bb, ob, rfl, hxb⟩ := sl_ints hb hib2
       refine d_any rfl (want_yes rfl rfl rfl) rfl (fun _ => (y_indexS Try.underlying39 Try.sizeOf3 rfl rfl rfl rfl (i := _) rfl (by omega))) ?_
       refine d_take rfl (want_yes rfl rfl rfl) rfl hs41 (fun _ hq => (y_load1 Try.isAgg3 hq rfl rfl hxa)) ?_
       refine d_any rfl (want_yes rfl rfl rfl) rfl (fun _ => (y_move (v := .slice _ _ _) rfl rfl)) ?_
       refine d_any rfl (want_yes rfl rfl rfl) rfl (fun _ => (y_move (v := .int _ _) rfl rfl)) ?_
       refine d_any rfl (want_yes rfl rfl rfl) rfl (fun _ => (y_indexS Try.underlying39 Try.sizeOf3 rfl rfl rfl rfl (i := _) rfl (by omega))) ?_
       refine d_take rfl (want_yes rfl rfl rfl) rfl hs41 (fun _ hq => (y_load1 Try.isAgg3 hq rfl rfl hxb)) ?_
       refine d_any rfl (want_yes rfl rfl rfl) rfl (fun _ => (y_lss rfl rfl rfl rfl)) ?_
       refine d_any rfl want_none rfl (fun _ => (y_pickF (v := .bool _) rfl rfl rfl rfl)) ?_
       refine d_any rfl want_none rfl (fun _ => (y_assign (v := .bool _) rfl rfl)) ?_
       refine d_nil ?_
       refine q_then (hK38 _ _ ?_)
       refine w_ret ?_
       refine q_ret (l := [.tmp 4]) (vs := [_]) rfl ⟨⟨rfl, show _ = (.bool _ : Value) from rfl⟩, trivial⟩ ?_
       exact ⟨(by first | (rw [less_end hpre hia (by omega)]; rfl) | (rw [less_short hpre (by omega) (by omega)]; rfl) | (rw [less_here hpre (by omega) (by omega) (by first | assumption | omega)]; rfl)), hs41⟩
   ·
    try simp only [zA, zB, zC, zD, zE, zF] at h16
    refine d_skip rfl rfl rfl rfl ?_
    refine d_skip rfl rfl rfl rfl ?_
    refine d_skip rfl rfl rfl rfl ?_
    refine d_skip rfl rfl rfl rfl ?_
    refine d_any rfl want_none rfl (fun _ => (y_pickF (v := _) rfl rfl rfl rfl)) ?_
    refine d_any rfl want_none rfl (fun _ => (y_move (v := .bool _) rfl rfl)) ?_
    refine d_skip rfl rfl rfl rfl ?_
    refine d_skip rfl rfl rfl rfl ?_
    refine d_skip rfl rfl rfl rfl ?_
    refine d_skip1 rfl rfl rfl rfl hs15 ?_
    refine d_skip rfl rfl rfl rfl ?_
    refine d_skip rfl rfl rfl rfl ?_
    refine d_skip rfl rfl rfl rfl ?_
    refine d_skip1 rfl rfl rfl rfl hs15 ?_
    refine d_skip rfl rfl rfl rfl ?_
    refine d_any rfl want_none rfl (fun _ => (y_pickF (v := _) rfl rfl rfl rfl)) ?_
    refine d_nil ?_
    refine q_then (hK12 _ _ ?_)
    refine w_condF rfl rfl ?_
    refine w_exit ?_
    refine q_then_exit ?_
    refine q_then_exit ?_
    refine q_blk_this ?_
    refine q_then (hK5 _ _ ?_)
    refine w_seq (fun K44 hK43 => ?_)
    refine w_seq (fun K46 hK45 => ?_)
    refine w_region ?_
    refine w_p (y_move (v := .int _ _) rfl rfl) rfl ?_
    refine w_p (y_move (v := .slice _ _ _) rfl rfl) rfl ?_
    refine w_p (y_lenS Try.underlying39 rfl rfl) rfl ?_
    refine w_p (y_eql rfl rfl rfl rfl) rfl ?_
    refine w_nil ?_
    refine q_then (hK45 _ _ ?_)
    refine w_cond rfl rfl (fun h47 => ?_) (fun h47 => ?_)
    ·
     try simp only [zA, zB, zC, zD, zE, zF] at h47
     refine w_seq (fun K49 hK48 => ?_)
     refine w_region ?_
     refine w_p (y_assign (v := _) rfl rfl) rfl ?_
     refine w_nil ?_
     refine q_then (hK48 _ _ ?_)
     refine w_ret ?_
     refine q_then_ret ?_
     refine q_ret (l := [.tmp 4]) (vs := [_]) rfl ⟨⟨rfl, show _ = (.bool _ : Value) from rfl⟩, trivial⟩ ?_
     exact ⟨(by first | (rw [less_end hpre hia (by omega)]; rfl) | (rw [less_short hpre (by omega) (by omega)]; rfl) | (rw [less_here hpre (by omega) (by omega) (by first | assumption | omega)]; rfl)), hs15⟩
    ·
     try simp only [zA, zB, zC, zD, zE, zF] at h47
     refine w_skip ?_
     refine q_then (hK43 _ _ ?_)
     refine w_seq (fun K51 hK50 => ?_)
     refine w_draw [] [(0, 0), (1, 0), (2, 0), (3, 0), (4, 0), (5, 0), (6, 0), (7, 0), (8, 1), (9, 0), (10, 0), (11, 0), (12, 1), (13, 0), (14, 0), (15, 0)] Try_mo (by kernel_rfl) hs15 (fun w52 hs53 => ?_)
     refine d_any rfl want_none rfl (fun _ => (y_move (v := .int _ _) rfl rfl)) ?_
     refine d_any rfl want_none rfl (fun _ => (y_move (v := .slice _ _ _) rfl rfl)) ?_
     refine d_any rfl want_none rfl (fun _ => (y_lenS Try.underlying39 rfl rfl)) ?_
     refine d_any rfl want_none rfl (fun _ => (y_eql rfl rfl rfl rfl)) ?_
     refine d_any rfl want_none rfl (fun _ => (y_move (v := .bool _) rfl rfl)) ?_
     refine d_split (fun h54 => ?_) (fun h54 => ?_)
     ·
      try simp only [zA, zB, zC, zD, zE, zF] at h54
      refine d_skip rfl rfl rfl rfl ?_
      refine d_skip rfl rfl rfl rfl ?_
      refine d_skip rfl rfl rfl rfl ?_
      refine d_skip1 rfl rfl rfl rfl hs53 ?_
      refine d_skip rfl rfl rfl rfl ?_
      refine d_skip rfl rfl rfl rfl ?_
      refine d_skip rfl rfl rfl rfl ?_
      refine d_skip1 rfl rfl rfl rfl hs53 ?_
      refine d_skip rfl rfl rfl rfl ?_
      refine d_any rfl want_none rfl (fun _ => (y_pickT (v := _) rfl rfl rfl rfl)) ?_
      refine d_any rfl want_none rfl (fun _ => (y_assign (v := .bool _) rfl rfl)) ?_
      refine d_nil ?_
      refine q_then (hK50 _ _ ?_)
      refine w_ret ?_
      refine q_ret (l := [.tmp 4]) (vs := [_]) rfl ⟨⟨rfl, show _ = (.bool _ : Value) from rfl⟩, trivial⟩ ?_
      exact ⟨(by first | (rw [less_end hpre hia (by omega)]; rfl) | (rw [less_short hpre (by omega) (by omega)]; rfl) | (rw [less_here hpre (by omega) (by omega) (by first | assumption | omega)]; rfl)), hs53⟩
     ·
      try simp only [zA, zB, zC, zD, zE, zF] at h54
      refine d_any rfl (want_yes rfl rfl rfl) rfl (fun _ => (y_move (v := .slice _ _ _) rfl rfl)) ?_
      refine d_any rfl (want_yes rfl rfl rfl) rfl (fun _ => (y_move (v := .int _ _) rfl rfl)) ?_
      have hia2 : i < a.length := by omega
      have hib2 : i < b.length := by omega
      obtain ⟨ba, oa, rfl, hxa⟩ := sl_ints ha hia2
      obtain ⟨bb, ob, rfl, hxb⟩ := sl_ints hb hib2
      refine d_any rfl (want_yes rfl rfl rfl) rfl (fun _ => (y_indexS Try.underlying39 Try.sizeOf3 rfl rfl rfl rfl (i := _) rfl (by omega))) ?_
      refine d_take rfl (want_yes rfl rfl rfl) rfl hs53 (fun _ hq => (y_load1 Try.isAgg3 hq rfl rfl hxa)) ?_
      refine d_any rfl (want_yes rfl rfl rfl) rfl (fun _ => (y_move (v := .slice _ _ _) rfl rfl)) ?_
      refine d_any rfl (want_yes rfl rfl rfl) rfl (fun _ => (y_move (v := .int _ _) rfl rfl)) ?_
      refine d_any rfl (want_yes rfl rfl rfl) rfl (fun _ => (y_indexS Try.underlying39 Try.sizeOf3 rfl rfl rfl rfl (i := _) rfl (by omega))) ?_
      refine d_take rfl (want_yes rfl rfl rfl) rfl hs53 (fun _ hq => (y_load1 Try.isAgg3 hq rfl rfl hxb)) ?_
      refine d_any rfl (want_yes rfl rfl rfl) rfl (fun _ => (y_lss rfl rfl rfl rfl)) ?_
      refine d_any rfl want_none rfl (fun _ => (y_pickF (v := .bool _) rfl rfl rfl rfl)) ?_
      refine d_any rfl want_none rfl (fun _ => (y_assign (v := .bool _) rfl rfl)) ?_
      refine d_nil ?_
      refine q_then (hK50 _ _ ?_)
      refine w_ret ?_
      refine q_ret (l := [.tmp 4]) (vs := [_]) rfl ⟨⟨rfl, show _ = (.bool _ : Value) from rfl⟩, trivial⟩ ?_
      exact ⟨(by first | (rw [less_end hpre hia (by omega)]; rfl) | (rw [less_short hpre (by omega) (by omega)]; rfl) | (rw [less_here hpre (by omega) (by omega) (by first | assumption | omega)]; rfl)), hs53⟩

theorem c29 {w0 w : World} {F : List (Nat × Obj)} (aa ab : Option Addr) (a b : List Int) (ca cb : Nat) (hla : a.length ≤ 9223372036854775807) (ha : Sl w0 F aa 1 (a.map fun x => [Value.int .i64 x])) (hb : Sl w0 F ab 1 (b.map fun x => [Value.int .i64 x])) (hs : St w0 w F) :
  Con Try.prog 29 [.slice aa a.length ca, .slice ab b.length cb] w fun v w' => v = .bool (decide (a = b)) ∧ St w0 w' F := by
  refine con_of_wc (n := 22) Try.func29 rfl rfl (Nat.le_of_ble_eq_true rfl) ?_
  refine w_seq (fun K2 hK1 => ?_)
  refine w_region ?_
  refine w_p (y_assign (v := _) rfl rfl) rfl ?_
  refine w_nil ?_
  refine q_then (hK1 _ _ ?_)
  refine w_seq (fun K4 hK3 => ?_)
  refine w_region ?_
  refine w_p (y_move (v := .slice _ _ _) rfl rfl) rfl ?_
  refine w_p (y_lenS Try.underlying39 rfl rfl) rfl ?_
  refine w_p (y_move (v := .slice _ _ _) rfl rfl) rfl ?_
  refine w_p (y_lenS Try.underlying39 rfl rfl) rfl ?_
  refine w_p (y_eql rfl rfl rfl rfl) rfl ?_
  refine w_p (y_move (v := .bool _) rfl rfl) rfl ?_
  refine w_split (fun h5 => ?_) (fun h5 => ?_)
  ·
   try simp only [zA, zB, zC, zD, zE, zF] at h5
   refine w_y rfl rfl rfl (y_move (v := .slice _ _ _) rfl rfl) rfl ?_
   refine w_y rfl rfl rfl (y_move (v := .slice _ _ _) rfl rfl) rfl ?_
   refine w_call (want_yes rfl rfl rfl) Try.call82 rfl rfl rfl rfl (c82 _ _ _ _ _ _ (by omega) (by assumption) (by assumption) hs) ?_
   rintro _ w7 ⟨rfl, hs8⟩
   refine w_y rfl rfl rfl (y_not rfl rfl) rfl ?_
   refine w_p (y_pickT (v := .bool _) rfl rfl rfl rfl) rfl ?_
   refine w_p (y_move (v := .bool _) rfl rfl) rfl ?_
   refine w_split (fun h9 => ?_) (fun h9 => ?_)
   ·
    try simp only [zA, zB, zC, zD, zE, zF] at h9
    refine w_y rfl rfl rfl (y_move (v := .slice _ _ _) rfl rfl) rfl ?_
    refine w_y rfl rfl rfl (y_move (v := .slice _ _ _) rfl rfl) rfl ?_
    refine w_call (want_yes rfl rfl rfl) Try.call82 rfl rfl rfl rfl (c82 _ _ _ _ _ _ (by omega) (by assumption) (by assumption) hs8) ?_
    rintro _ w11 ⟨rfl, hs12⟩
    refine w_y rfl rfl rfl (y_not rfl rfl) rfl ?_
    refine w_p (y_pickT (v := .bool _) rfl rfl rfl rfl) rfl ?_
    refine w_p (y_assign (v := .bool _) rfl rfl) rfl ?_
    refine w_nil ?_
    refine q_then (hK3 _ _ ?_)
    refine w_ret ?_
    refine q_ret (l := [.tmp 4]) (vs := [_]) rfl ⟨⟨rfl, show _ = (.bool _ : Value) from rfl⟩, trivial⟩ ?_
    exact ⟨congrArg Value.bool (by rw [← ints_eq, Bool.eq_iff_iff]; simp [*] <;> omega), hs12⟩
   ·
    try simp only [zA, zB, zC, zD, zE, zF] at h9
    refine w_skipop rfl rfl rfl ?_
    refine w_skipop rfl rfl rfl ?_
    refine w_skipop rfl rfl rfl ?_
    refine w_skipop rfl rfl rfl ?_
    refine w_p (y_pickF (v := _) rfl rfl rfl rfl) rfl ?_
    refine w_p (y_assign (v := .bool _) rfl rfl) rfl ?_
    refine w_nil ?_
    refine q_then (hK3 _ _ ?_)
    refine w_ret ?_
    refine q_ret (l := [.tmp 4]) (vs := [_]) rfl ⟨⟨rfl, show _ = (.bool _ : Value) from rfl⟩, trivial⟩ ?_
    exact ⟨congrArg Value.bool (by rw [← ints_eq, Bool.eq_iff_iff]; simp [*] <;> omega), hs8⟩
  ·
   try simp only [zA, zB, zC, zD, zE, zF] at h5
   refine w_skipop rfl rfl rfl ?_
   refine w_skipop rfl rfl rfl ?_
   refine w_skipop rfl rfl rfl ?_
   refine w_skipop rfl rfl rfl ?_
   refine w_p (y_pickF (v := _) rfl rfl rfl rfl) rfl ?_
   refine w_p (y_move (v := .bool _) rfl rfl) rfl ?_
   refine w_skipop rfl rfl rfl ?_
   refine w_skipop rfl rfl rfl ?_
   refine w_skipop rfl rfl rfl ?_
   refine w_skipop rfl rfl rfl ?_
   refine w_p (y_pickF (v := _) rfl rfl rfl rfl) rfl ?_
   refine w_p (y_assign (v := .bool _) rfl rfl) rfl ?_
   refine w_nil ?_
   refine q_then (hK3 _ _ ?_)
   refine w_ret ?_
   refine q_ret (l := [.tmp 4]) (vs := [_]) rfl ⟨⟨rfl, show _ = (.bool _ : Value) from rfl⟩, trivial⟩ ?_
   exact ⟨congrArg Value.bool (by rw [← ints_eq, Bool.eq_iff_iff]; simp [*] <;> omega), hs⟩

theorem sl_strs {w0 : World} {F : List (Nat × Obj)} {a : Option Addr} {l : List ByteArray} {i : Nat} (h : Sl w0 F a 1 (l.map fun x => [Value.string x])) (hi : i < l.length) :
    ∃ b off, a = some ⟨b, off, none⟩ ∧ Ats w0 F b (off + i * 1) [.string l[i]] := by
  obtain ⟨b, off, ha, _, hat⟩ := h.at (i := i) (row := [.string l[i]]) (by simp [hi])
  exact ⟨b, off, ha, hat⟩
theorem notmem_take {l : List ByteArray} {s : ByteArray} {i : Nat} (h : has (l.take i) s = false) (hi : i < l.length) (hne : ¬ l[i] = s) : has (l.take (i + 1)) s = false := by
  unfold has at *
  rw [List.take_succ_eq_append_getElem hi, List.any_append, h]; simp [hne]
theorem c97 {w0 w : World} {F : List (Nat × Obj)} (aa : Option Addr) (l : List ByteArray) (s : ByteArray) (ca : Nat) (hla : l.length ≤ 9223372036854775807) (ha : Sl w0 F aa 1 (l.map fun x => [Value.string x])) (hs : St w0 w F) :
  Con Try.prog 97 [.slice aa l.length ca, .string s] w fun v w' => (∃ z, v = .int .i64 z ∧ (0 ≤ z ↔ has l s = true)) ∧ St w0 w' F := by
  refine con_of_wc (n := 25) Try.func97 rfl rfl (Nat.le_of_ble_eq_true rfl) ?_
  refine w_seq (fun K2 hK1 => ?_)
  refine w_region ?_
  refine w_p (y_assign (v := _) rfl rfl) rfl ?_
  refine w_nil ?_
  refine q_then (hK1 _ _ ?_)
  refine w_seq (fun K4 hK3 => ?_)
  refine w_region ?_
  refine w_p (y_assign (v := _) rfl rfl) rfl ?_
  refine w_nil ?_
  refine q_then (hK3 _ _ ?_)
  refine w_seq (fun K6 hK5 => ?_)
  refine w_block ?_
  refine w_loop [5, 6, 7, 8, 9, 10, 11, 12, 13, 14, 15, 16, 17, 18, 19] [5] (fun k vs w => ∃ i : Nat, vs = [.int .i64 i] ∧ i ≤ l.length ∧ k = l.length - i ∧ has (l.take i) s = false ∧ St w0 w F) (l.length) ?_ ?_
  ·
   exact ⟨0, rfl, by omega, by omega, rfl, hs⟩
  ·
   intro k vs μ w9 hI K8 hN7
   obtain ⟨i, rfl, hia, rfl, hpre, hs⟩ := hI
   refine w_seq (fun K11 hK10 => ?_)
   refine w_seq (fun K13 hK12 => ?_)
   refine w_region ?_
   refine w_p (y_move (v := .int _ _) rfl rfl) rfl ?_
   refine w_p (y_move (v := .slice _ _ _) rfl rfl) rfl ?_
   refine w_p (y_lenS Try.underlying92 rfl rfl) rfl ?_
   refine w_p (y_lss rfl rfl rfl rfl) rfl ?_
   refine w_p (y_move (v := .bool _) rfl rfl) rfl ?_
   refine w_split (fun h14 => ?_) (fun h14 => ?_)
   ·
    try simp only [zA, zB, zC, zD, zE, zF] at h14
    refine w_y rfl rfl rfl (y_move (v := .slice _ _ _) rfl rfl) rfl ?_
    refine w_y rfl rfl rfl (y_move (v := .int _ _) rfl rfl) rfl ?_
    have hi2 : i < l.length := by omega
    obtain ⟨ba, oa, rfl, hxa⟩ := sl_strs ha hi2
    refine w_y rfl rfl rfl (y_indexS Try.underlying92 Try.sizeOf9 rfl rfl rfl rfl (i := _) rfl (by omega)) rfl ?_
    refine w_y rfl rfl rfl (y_load1 Try.isAgg9 hs rfl rfl hxa) rfl ?_
    refine w_y rfl rfl rfl (y_move (v := .string _) rfl rfl) rfl ?_
    refine w_y rfl rfl rfl (y_strNe rfl rfl rfl rfl) rfl ?_
    refine w_p (y_pickT (v := .bool _) rfl rfl rfl rfl) rfl ?_
    refine w_nil ?_
    refine q_then (hK12 _ _ ?_)
    refine w_cond rfl rfl (fun h15 => ?_) (fun h15 => ?_)
    ·
     try simp only [zA, zB, zC, zD, zE, zF] at h15
     refine w_skip ?_
     refine q_then (hK10 _ _ ?_)
     refine w_block ?_
     refine w_region ?_
     refine w_p (y_move (v := .int _ _) rfl rfl) rfl ?_
     refine w_p (y_add rfl rfl rfl rfl (by omega) (by omega)) rfl ?_
     refine w_p (y_assign (v := .int _ _) rfl rfl) rfl ?_
     refine w_nil ?_
     refine q_blk_normal ?_
     refine q_then (hN7 _ _ (Nx.intro (l.length - (i + 1)) (by omega) (by repeat (first | exact agree_mix | refine agree_upd rfl ?_ | refine agree_updL rfl ?_ _ | refine agree_mixin rfl ?_)) ?_))
     exact ⟨i + 1, rfl, by omega, rfl, notmem_take hpre (by omega) (by assumption), hs⟩
    ·
     try simp only [zA, zB, zC, zD, zE, zF] at h15
     refine w_exit ?_
     refine q_then_exit ?_
     refine q_then_exit ?_
     refine q_blk_this ?_
     refine q_then (hK5 _ _ ?_)
     refine w_seq (fun K17 hK16 => ?_)
     refine w_seq (fun K19 hK18 => ?_)
     refine w_region ?_
     refine w_p (y_move (v := .int _ _) rfl rfl) rfl ?_
     refine w_p (y_move (v := .slice _ _ _) rfl rfl) rfl ?_
     refine w_p (y_lenS Try.underlying92 rfl rfl) rfl ?_
     refine w_p (y_eql rfl rfl rfl rfl) rfl ?_
     refine w_nil ?_
     refine q_then (hK18 _ _ ?_)
     refine w_cond rfl rfl (fun h20 => ?_) (fun h20 => ?_)
     ·
      try simp only [zA, zB, zC, zD, zE, zF] at h20
      refine w_seq (fun K22 hK21 => ?_)
      refine w_region ?_
      refine w_p (y_assign (v := _) rfl rfl) rfl ?_
      refine w_nil ?_
      refine q_then (hK21 _ _ ?_)
      refine w_ret ?_
      refine q_then_ret ?_
      refine q_ret (l := [.tmp 4]) (vs := [_]) rfl ⟨⟨rfl, show _ = (.int _ _ : Value) from rfl⟩, trivial⟩ ?_
      first
        | exact ⟨⟨-1, rfl, by have hil : i = l.length := (by omega); subst hil; rw [List.take_length] at hpre; simp [hpre]⟩, hs⟩
        | exact ⟨⟨(i : Int), rfl, ⟨fun _ => (by have hi3 : i < l.length := (by omega); have he : l[i] = s := (by assumption); exact List.any_eq_true.2 ⟨_, List.getElem_mem hi3, by simp [he]⟩), fun _ => by omega⟩⟩, hs⟩
        | (exfalso; omega)
     ·
      try simp only [zA, zB, zC, zD, zE, zF] at h20
      refine w_skip ?_
      refine q_then (hK16 _ _ ?_)
      refine w_seq (fun K24 hK23 => ?_)
      refine w_region ?_
      refine w_p (y_move (v := .int _ _) rfl rfl) rfl ?_
      refine w_p (y_assign (v := .int _ _) rfl rfl) rfl ?_
      refine w_nil ?_
      refine q_then (hK23 _ _ ?_)
      refine w_ret ?_
      refine q_ret (l := [.tmp 4]) (vs := [_]) rfl ⟨⟨rfl, show _ = (.int _ _ : Value) from rfl⟩, trivial⟩ ?_
      first
        | exact ⟨⟨-1, rfl, by have hil : i = l.length := (by omega); subst hil; rw [List.take_length] at hpre; simp [hpre]⟩, hs⟩
        | exact ⟨⟨(i : Int), rfl, ⟨fun _ => (by have hi3 : i < l.length := (by omega); have he : l[i] = s := (by assumption); exact List.any_eq_true.2 ⟨_, List.getElem_mem hi3, by simp [he]⟩), fun _ => by omega⟩⟩, hs⟩
        | (exfalso; omega)
   ·
    try simp only [zA, zB, zC, zD, zE, zF] at h14
    refine w_skipop rfl rfl rfl ?_
    refine w_skipop rfl rfl rfl ?_
    refine w_skipop rfl rfl rfl ?_
    refine w_skipop rfl rfl rfl ?_
    refine w_skipop rfl rfl rfl ?_
    refine w_skipop rfl rfl rfl ?_
    refine w_p (y_pickF (v := _) rfl rfl rfl rfl) rfl ?_
    refine w_nil ?_
    refine q_then (hK12 _ _ ?_)
    refine w_condF rfl rfl ?_
    refine w_exit ?_
    refine q_then_exit ?_
    refine q_then_exit ?_
    refine q_blk_this ?_
    refine q_then (hK5 _ _ ?_)
    refine w_seq (fun K26 hK25 => ?_)
    refine w_seq (fun K28 hK27 => ?_)
    refine w_region ?_
    refine w_p (y_move (v := .int _ _) rfl rfl) rfl ?_
    refine w_p (y_move (v := .slice _ _ _) rfl rfl) rfl ?_
    refine w_p (y_lenS Try.underlying92 rfl rfl) rfl ?_
    refine w_p (y_eql rfl rfl rfl rfl) rfl ?_
    refine w_nil ?_
    refine q_then (hK27 _ _ ?_)
    refine w_cond rfl rfl (fun h29 => ?_) (fun h29 => ?_)
    ·
     try simp only [zA, zB, zC, zD, zE, zF] at h29
     refine w_seq (fun K31 hK30 => ?_)
     refine w_region ?_
     refine w_p (y_assign (v := _) rfl rfl) rfl ?_
     refine w_nil ?_
     refine q_then (hK30 _ _ ?_)
     refine w_ret ?_
     refine q_then_ret ?_
     refine q_ret (l := [.tmp 4]) (vs := [_]) rfl ⟨⟨rfl, show _ = (.int _ _ : Value) from rfl⟩, trivial⟩ ?_
     first
       | exact ⟨⟨-1, rfl, by have hil : i = l.length := (by omega); subst hil; rw [List.take_length] at hpre; simp [hpre]⟩, hs⟩
       | exact ⟨⟨(i : Int), rfl, ⟨fun _ => (by have hi3 : i < l.length := (by omega); have he : l[i] = s := (by assumption); exact List.any_eq_true.2 ⟨_, List.getElem_mem hi3, by simp [he]⟩), fun _ => by omega⟩⟩, hs⟩
       | (exfalso; omega)
    ·
     try simp only [zA, zB, zC, zD, zE, zF] at h29
     refine w_skip ?_
     refine q_then (hK25 _ _ ?_)
     refine w_seq (fun K33 hK32 => ?_)
     refine w_region ?_
     refine w_p (y_move (v := .int _ _) rfl rfl) rfl ?_
     refine w_p (y_assign (v := .int _ _) rfl rfl) rfl ?_
     refine w_nil ?_
     refine q_then (hK32 _ _ ?_)
     refine w_ret ?_
     refine q_ret (l := [.tmp 4]) (vs := [_]) rfl ⟨⟨rfl, show _ = (.int _ _ : Value) from rfl⟩, trivial⟩ ?_
     first
       | exact ⟨⟨-1, rfl, by have hil : i = l.length := (by omega); subst hil; rw [List.take_length] at hpre; simp [hpre]⟩, hs⟩
       | exact ⟨⟨(i : Int), rfl, ⟨fun _ => (by have hi3 : i < l.length := (by omega); have he : l[i] = s := (by assumption); exact List.any_eq_true.2 ⟨_, List.getElem_mem hi3, by simp [he]⟩), fun _ => by omega⟩⟩, hs⟩
       | (exfalso; omega)

theorem nmBytes_snoc (l : List UInt8) (c : UInt8) : ∀ f, nmBytes f (l ++ [c]) = (nmBytes f l && nmByte (f && l.isEmpty) c) := by
  induction l with
  | nil => intro f; simp [nmBytes]
  | cons x l ih => intro f; simp only [List.cons_append, nmBytes, ih]; simp [Bool.and_assoc]
theorem name_step (s : ByteArray) (i : Nat) (h : i < s.size) : nmBytes true (s.data.toList.take (i + 1)) = (nmBytes true (s.data.toList.take i) && nmByte (decide (i = 0)) s[i]) := by
  rw [List.take_succ_eq_append_getElem (by simpa using h), nmBytes_snoc]
  have e : (true && (s.data.toList.take i).isEmpty) = decide (i = 0) := by
    rw [Bool.eq_iff_iff]
    cases i with
    | zero => simp
    | succ i =>
      have : s.data.toList ≠ [] := by intro e; simp at e; have h2 : s.size = 0 := by rw [ByteArray.size, e]; rfl
                                      omega
      simp [this]
  rw [e]; rfl
theorem bp (x y : Bool) (k : IntKind) (a b : Int) (h1 : x = y) (h2 : a = b) : [Value.bool x, Value.int k a] = [Value.bool y, Value.int k b] := by rw [h1, h2]
theorem name_round (s : ByteArray) (i : Nat) (h : i < s.size) (x : Bool)
    (hx : x = ((decide (1 ≤ s.size) && decide (s.size ≤ 16) && nmBytes true (s.data.toList.take i)) && nmByte (decide (i = 0)) s[i])) : x = (decide (1 ≤ s.size) && decide (s.size ≤ 16) && nmBytes true (s.data.toList.take (i + 1))) := by
  rw [hx, name_step s i h, Bool.and_assoc]
theorem c98 {w0 w : World} {F : List (Nat × Obj)} (s : ByteArray) (hls : s.size ≤ 9223372036854775807) (hs : St w0 w F) :
  Con Try.prog 98 [.string s] w fun v w' => v = .bool (nmOk s) ∧ St w0 w' F := by
  refine con_of_wc (n := 42) Try.func98 rfl rfl (Nat.le_of_ble_eq_true rfl) ?_
  refine w_seq (fun K2 hK1 => ?_)
  refine w_region ?_
  refine w_p (y_assign (v := _) rfl rfl) rfl ?_
  refine w_nil ?_
  refine q_then (hK1 _ _ ?_)
  refine w_seq (fun K4 hK3 => ?_)
  refine w_region ?_
  refine w_p (y_move (v := .string _) rfl rfl) rfl ?_
  refine w_p (y_lenStr Try.underlying9 rfl rfl) rfl ?_
  refine w_call want_none Try.call59 rfl rfl rfl rfl (c59 _ _ _ hs) ?_
  rintro _ w6 ⟨rfl, hs7⟩
  refine w_p (y_assign (v := .bool _) rfl rfl) rfl ?_
  refine w_nil ?_
  refine q_then (hK3 _ _ ?_)
  refine w_seq (fun K9 hK8 => ?_)
  refine w_seq (fun K11 hK10 => ?_)
  refine w_region ?_
  refine w_p (y_assign (v := _) rfl rfl) rfl ?_
  refine w_nil ?_
  refine q_then (hK10 _ _ ?_)
  refine w_block ?_
  refine w_loop [3, 4, 5, 9, 10, 11, 12, 13, 14, 15, 16, 17, 18, 19, 20, 21, 22, 23, 24, 25, 26, 27, 28, 29, 30, 31, 32, 33, 34, 35, 36, 37, 38, 39, 40] [3, 4] (fun k vs w => ∃ i : Nat, vs = [.bool (decide (1 ≤ s.size) && decide (s.size ≤ 16) && nmBytes true (s.data.toList.take i)), .int .i64 i] ∧ i ≤ s.size ∧ k = s.size - i ∧ St w0 w F) (s.size) ?_ ?_
  ·
   exact ⟨0, bp _ _ _ _ _ (by rw [Bool.eq_iff_iff]; simp [out, nmBytes] <;> omega) rfl, by omega, by omega, hs7⟩
  ·
   intro k vs μ w14 hI K13 hN12
   obtain ⟨i, rfl, hia, rfl, hs⟩ := hI
   generalize hfine : (decide (1 ≤ s.size) && decide (s.size ≤ 16) && nmBytes true (s.data.toList.take i)) = fine
   refine w_seq (fun K16 hK15 => ?_)
   refine w_seq (fun K18 hK17 => ?_)
   refine w_region ?_
   refine w_p (y_move (v := .int _ _) rfl rfl) rfl ?_
   refine w_p (y_move (v := .string _) rfl rfl) rfl ?_
   refine w_p (y_lenStr Try.underlying9 rfl rfl) rfl ?_
   refine w_p (y_lss rfl rfl rfl rfl) rfl ?_
   refine w_nil ?_
   refine q_then (hK17 _ _ ?_)
   refine w_cond rfl rfl (fun h19 => ?_) (fun h19 => ?_)
   ·
    try simp only [zA, zB, zC, zD, zE, zF] at h19
    refine w_skip ?_
    refine q_then (hK15 _ _ ?_)
    refine w_seq (fun K21 hK20 => ?_)
    refine w_block ?_
    refine w_seq (fun K23 hK22 => ?_)
    have hi2 : i < s.size := by omega
    have hc0 : (0:Int) ≤ (s[i].toNat : Int) := by omega
    have hc1 : (s[i].toNat : Int) ≤ 255 := by have := s[i].toNat_lt; omega
    refine w_region ?_
    refine w_p (y_move (v := .int _ _) rfl rfl) rfl ?_
    refine w_p (y_gtr rfl rfl rfl rfl) rfl ?_
    refine w_p (y_move (v := .bool _) rfl rfl) rfl ?_
    refine w_split (fun h24 => ?_) (fun h24 => ?_)
    ·
     try simp only [zA, zB, zC, zD, zE, zF] at h24
     refine w_y rfl rfl rfl (y_move (v := .string _) rfl rfl) rfl ?_
     refine w_y rfl rfl rfl (y_move (v := .int _ _) rfl rfl) rfl ?_
     refine w_y rfl rfl rfl (y_strIdx Try.underlying9 rfl rfl rfl rfl (i := _) rfl (by omega)) rfl ?_
     refine w_y rfl rfl rfl (y_eql rfl rfl rfl rfl) rfl ?_
     refine w_y rfl rfl rfl (y_move (v := .bool _) rfl rfl) rfl ?_
     refine w_split (fun h25 => ?_) (fun h25 => ?_)
     ·
      try simp only [zA, zB, zC, zD, zE, zF] at h25
      refine w_skipop rfl rfl rfl ?_
      refine w_skipop rfl rfl rfl ?_
      refine w_skipop rfl rfl rfl ?_
      refine w_skipop rfl rfl rfl ?_
      refine w_skipop rfl rfl rfl ?_
      refine w_y rfl rfl rfl (y_pickT (v := _) rfl rfl rfl rfl) rfl ?_
      refine w_p (y_pickT (v := .bool _) rfl rfl rfl rfl) rfl ?_
      refine w_p (y_assign (v := .bool _) rfl rfl) rfl ?_
      refine w_nil ?_
      refine q_then (hK22 _ _ ?_)
      refine w_region ?_
      refine w_p (y_move (v := .bool _) rfl rfl) rfl ?_
      refine w_p (y_move (v := .bool _) rfl rfl) rfl ?_
      refine w_split (fun h26 => ?_) (fun h26 => ?_)
      ·
       try simp only [zA, zB, zC, zD, zE, zF] at h26
       refine w_y rfl rfl rfl (y_move (v := .string _) rfl rfl) rfl ?_
       refine w_y rfl rfl rfl (y_move (v := .int _ _) rfl rfl) rfl ?_
       refine w_y rfl rfl rfl (y_strIdx Try.underlying9 rfl rfl rfl rfl (i := _) rfl (by omega)) rfl ?_
       refine w_y rfl rfl rfl (y_u8int (by rw [Try.underlying5]; rfl) Try.underlying3 rfl rfl (by omega) (by omega)) rfl ?_
       refine w_call (want_yes rfl rfl rfl) Try.call59 rfl rfl rfl rfl (c59 _ _ _ hs) ?_
       rintro _ w28 ⟨rfl, hs29⟩
       refine w_y rfl rfl rfl (y_move (v := .bool _) rfl rfl) rfl ?_
       refine w_split (fun h30 => ?_) (fun h30 => ?_)
       ·
        try simp only [zA, zB, zC, zD, zE, zF] at h30
        refine w_skipop rfl rfl rfl ?_
        refine w_y rfl rfl rfl (y_pickT (v := _) rfl rfl rfl rfl) rfl ?_
        refine w_p (y_pickT (v := .bool _) rfl rfl rfl rfl) rfl ?_
        refine w_p (y_assign (v := .bool _) rfl rfl) rfl ?_
        refine w_nil ?_
        refine q_blk_normal ?_
        refine q_then (hK20 _ _ ?_)
        refine w_region ?_
        refine w_p (y_move (v := .int _ _) rfl rfl) rfl ?_
        refine w_p (y_add rfl rfl rfl rfl (by omega) (by omega)) rfl ?_
        refine w_p (y_assign (v := .int _ _) rfl rfl) rfl ?_
        refine w_nil ?_
        refine q_then (hN12 _ _ (Nx.intro (s.size - (i + 1)) (by omega) (by repeat (first | exact agree_mix | refine agree_upd rfl ?_ | refine agree_updL rfl ?_ _ | refine agree_mixin rfl ?_)) ?_))
        exact ⟨i + 1, bp _ _ _ _ _ (name_round s i (by omega) _ (by rw [hfine, Bool.eq_iff_iff]; simp only [*]; simp [nmByte, out] <;> omega)) rfl, by omega, rfl, hs29⟩
       ·
        try simp only [zA, zB, zC, zD, zE, zF] at h30
        refine w_y rfl rfl rfl (y_move (v := .bool _) rfl rfl) rfl ?_
        refine w_y rfl rfl rfl (y_pickF (v := .bool _) rfl rfl rfl rfl) rfl ?_
        refine w_p (y_pickT (v := .bool _) rfl rfl rfl rfl) rfl ?_
        refine w_p (y_assign (v := .bool _) rfl rfl) rfl ?_
        refine w_nil ?_
        refine q_blk_normal ?_
        refine q_then (hK20 _ _ ?_)
        refine w_region ?_
        refine w_p (y_move (v := .int _ _) rfl rfl) rfl ?_
        refine w_p (y_add rfl rfl rfl rfl (by omega) (by omega)) rfl ?_
        refine w_p (y_assign (v := .int _ _) rfl rfl) rfl ?_
        refine w_nil ?_
        refine q_then (hN12 _ _ (Nx.intro (s.size - (i + 1)) (by omega) (by repeat (first | exact agree_mix | refine agree_upd rfl ?_ | refine agree_updL rfl ?_ _ | refine agree_mixin rfl ?_)) ?_))
        exact ⟨i + 1, bp _ _ _ _ _ (name_round s i (by omega) _ (by rw [hfine, Bool.eq_iff_iff]; simp only [*]; simp [nmByte, out] <;> omega)) rfl, by omega, rfl, hs29⟩
      ·
       try simp only [zA, zB, zC, zD, zE, zF] at h26
       refine w_skipop rfl rfl rfl ?_
       refine w_skipop rfl rfl rfl ?_
       refine w_skipop rfl rfl rfl ?_
       refine w_skipop rfl rfl rfl ?_
       refine w_skipop rfl rfl rfl ?_
       refine w_skipop rfl rfl rfl ?_
       refine w_skipop' rfl rfl rfl ?_
       refine w_skipop rfl rfl rfl ?_
       refine w_p (y_pickF (v := _) rfl rfl rfl rfl) rfl ?_
       refine w_p (y_assign (v := .bool _) rfl rfl) rfl ?_
       refine w_nil ?_
       refine q_blk_normal ?_
       refine q_then (hK20 _ _ ?_)
       refine w_region ?_
       refine w_p (y_move (v := .int _ _) rfl rfl) rfl ?_
       refine w_p (y_add rfl rfl rfl rfl (by omega) (by omega)) rfl ?_
       refine w_p (y_assign (v := .int _ _) rfl rfl) rfl ?_
       refine w_nil ?_
       refine q_then (hN12 _ _ (Nx.intro (s.size - (i + 1)) (by omega) (by repeat (first | exact agree_mix | refine agree_upd rfl ?_ | refine agree_updL rfl ?_ _ | refine agree_mixin rfl ?_)) ?_))
       exact ⟨i + 1, bp _ _ _ _ _ (name_round s i (by omega) _ (by rw [hfine, Bool.eq_iff_iff]; simp only [*]; simp [nmByte, out] <;> omega)) rfl, by omega, rfl, hs⟩
     ·
      try simp only [zA, zB, zC, zD, zE, zF] at h25
      refine w_y rfl rfl rfl (y_move (v := .string _) rfl rfl) rfl ?_
      refine w_y rfl rfl rfl (y_move (v := .int _ _) rfl rfl) rfl ?_
      refine w_y rfl rfl rfl (y_strIdx Try.underlying9 rfl rfl rfl rfl (i := _) rfl (by omega)) rfl ?_
      refine w_y rfl rfl rfl (y_u8int (by rw [Try.underlying5]; rfl) Try.underlying3 rfl rfl (by omega) (by omega)) rfl ?_
      refine w_call (want_yes rfl rfl rfl) Try.call59 rfl rfl rfl rfl (c59 _ _ _ hs) ?_
      rintro _ w32 ⟨rfl, hs33⟩
      refine w_y rfl rfl rfl (y_pickF (v := .bool _) rfl rfl rfl rfl) rfl ?_
      refine w_p (y_pickT (v := .bool _) rfl rfl rfl rfl) rfl ?_
      refine w_p (y_assign (v := .bool _) rfl rfl) rfl ?_
      refine w_nil ?_
      refine q_then (hK22 _ _ ?_)
      refine w_region ?_
      refine w_p (y_move (v := .bool _) rfl rfl) rfl ?_
      refine w_p (y_move (v := .bool _) rfl rfl) rfl ?_
      refine w_split (fun h34 => ?_) (fun h34 => ?_)
      ·
       try simp only [zA, zB, zC, zD, zE, zF] at h34
       refine w_y rfl rfl rfl (y_move (v := .string _) rfl rfl) rfl ?_
       refine w_y rfl rfl rfl (y_move (v := .int _ _) rfl rfl) rfl ?_
       refine w_y rfl rfl rfl (y_strIdx Try.underlying9 rfl rfl rfl rfl (i := _) rfl (by omega)) rfl ?_
       refine w_y rfl rfl rfl (y_u8int (by rw [Try.underlying5]; rfl) Try.underlying3 rfl rfl (by omega) (by omega)) rfl ?_
       refine w_call (want_yes rfl rfl rfl) Try.call59 rfl rfl rfl rfl (c59 _ _ _ hs33) ?_
       rintro _ w36 ⟨rfl, hs37⟩
       refine w_y rfl rfl rfl (y_move (v := .bool _) rfl rfl) rfl ?_
       refine w_split (fun h38 => ?_) (fun h38 => ?_)
       ·
        try simp only [zA, zB, zC, zD, zE, zF] at h38
        refine w_skipop rfl rfl rfl ?_
        refine w_y rfl rfl rfl (y_pickT (v := _) rfl rfl rfl rfl) rfl ?_
        refine w_p (y_pickT (v := .bool _) rfl rfl rfl rfl) rfl ?_
        refine w_p (y_assign (v := .bool _) rfl rfl) rfl ?_
        refine w_nil ?_
        refine q_blk_normal ?_
        refine q_then (hK20 _ _ ?_)
        refine w_region ?_
        refine w_p (y_move (v := .int _ _) rfl rfl) rfl ?_
        refine w_p (y_add rfl rfl rfl rfl (by omega) (by omega)) rfl ?_
        refine w_p (y_assign (v := .int _ _) rfl rfl) rfl ?_
        refine w_nil ?_
        refine q_then (hN12 _ _ (Nx.intro (s.size - (i + 1)) (by omega) (by repeat (first | exact agree_mix | refine agree_upd rfl ?_ | refine agree_updL rfl ?_ _ | refine agree_mixin rfl ?_)) ?_))
        exact ⟨i + 1, bp _ _ _ _ _ (name_round s i (by omega) _ (by rw [hfine, Bool.eq_iff_iff]; simp only [*]; simp [nmByte, out] <;> omega)) rfl, by omega, rfl, hs37⟩
       ·
        try simp only [zA, zB, zC, zD, zE, zF] at h38
        refine w_y rfl rfl rfl (y_move (v := .bool _) rfl rfl) rfl ?_
        refine w_y rfl rfl rfl (y_pickF (v := .bool _) rfl rfl rfl rfl) rfl ?_
        refine w_p (y_pickT (v := .bool _) rfl rfl rfl rfl) rfl ?_
        refine w_p (y_assign (v := .bool _) rfl rfl) rfl ?_
        refine w_nil ?_
        refine q_blk_normal ?_
        refine q_then (hK20 _ _ ?_)
        refine w_region ?_
        refine w_p (y_move (v := .int _ _) rfl rfl) rfl ?_
        refine w_p (y_add rfl rfl rfl rfl (by omega) (by omega)) rfl ?_
        refine w_p (y_assign (v := .int _ _) rfl rfl) rfl ?_
        refine w_nil ?_
        refine q_then (hN12 _ _ (Nx.intro (s.size - (i + 1)) (by omega) (by repeat (first | exact agree_mix | refine agree_upd rfl ?_ | refine agree_updL rfl ?_ _ | refine agree_mixin rfl ?_)) ?_))
        exact ⟨i + 1, bp _ _ _ _ _ (name_round s i (by omega) _ (by rw [hfine, Bool.eq_iff_iff]; simp only [*]; simp [nmByte, out] <;> omega)) rfl, by omega, rfl, hs37⟩
      ·
       try simp only [zA, zB, zC, zD, zE, zF] at h34
       refine w_skipop rfl rfl rfl ?_
       refine w_skipop rfl rfl rfl ?_
       refine w_skipop rfl rfl rfl ?_
       refine w_skipop rfl rfl rfl ?_
       refine w_skipop rfl rfl rfl ?_
       refine w_skipop rfl rfl rfl ?_
       refine w_skipop' rfl rfl rfl ?_
       refine w_skipop rfl rfl rfl ?_
       refine w_p (y_pickF (v := _) rfl rfl rfl rfl) rfl ?_
       refine w_p (y_assign (v := .bool _) rfl rfl) rfl ?_
       refine w_nil ?_
       refine q_blk_normal ?_
       refine q_then (hK20 _ _ ?_)
       refine w_region ?_
       refine w_p (y_move (v := .int _ _) rfl rfl) rfl ?_
       refine w_p (y_add rfl rfl rfl rfl (by omega) (by omega)) rfl ?_
       refine w_p (y_assign (v := .int _ _) rfl rfl) rfl ?_
       refine w_nil ?_
       refine q_then (hN12 _ _ (Nx.intro (s.size - (i + 1)) (by omega) (by repeat (first | exact agree_mix | refine agree_upd rfl ?_ | refine agree_updL rfl ?_ _ | refine agree_mixin rfl ?_)) ?_))
       exact ⟨i + 1, bp _ _ _ _ _ (name_round s i (by omega) _ (by rw [hfine, Bool.eq_iff_iff]; simp only [*]; simp [nmByte, out] <;> omega)) rfl, by omega, rfl, hs33⟩
    ·
     try simp only [zA, zB, zC, zD, zE, zF] at h24
     refine w_skipop rfl rfl rfl ?_
     refine w_skipop rfl rfl rfl ?_
     refine w_skipop rfl rfl rfl ?_
     refine w_skipop rfl rfl rfl ?_
     refine w_skipop rfl rfl rfl ?_
     refine w_skipop' rfl rfl rfl ?_
     refine w_skipop' rfl rfl rfl ?_
     refine w_skipop' rfl rfl rfl ?_
     refine w_skipop' rfl rfl rfl ?_
     refine w_skipop' rfl rfl rfl ?_
     refine w_skipop rfl rfl rfl ?_
     refine w_p (y_pickF (v := _) rfl rfl rfl rfl) rfl ?_
     refine w_p (y_assign (v := .bool _) rfl rfl) rfl ?_
     refine w_nil ?_
     refine q_then (hK22 _ _ ?_)
     refine w_region ?_
     refine w_p (y_move (v := .bool _) rfl rfl) rfl ?_
     refine w_p (y_move (v := .bool _) rfl rfl) rfl ?_
     refine w_split (fun h39 => ?_) (fun h39 => ?_)
     ·
      try simp only [zA, zB, zC, zD, zE, zF] at h39
      refine w_y rfl rfl rfl (y_move (v := .string _) rfl rfl) rfl ?_
      refine w_y rfl rfl rfl (y_move (v := .int _ _) rfl rfl) rfl ?_
      refine w_y rfl rfl rfl (y_strIdx Try.underlying9 rfl rfl rfl rfl (i := _) rfl (by omega)) rfl ?_
      refine w_y rfl rfl rfl (y_u8int (by rw [Try.underlying5]; rfl) Try.underlying3 rfl rfl (by omega) (by omega)) rfl ?_
      refine w_call (want_yes rfl rfl rfl) Try.call59 rfl rfl rfl rfl (c59 _ _ _ hs) ?_
      rintro _ w41 ⟨rfl, hs42⟩
      refine w_y rfl rfl rfl (y_move (v := .bool _) rfl rfl) rfl ?_
      refine w_split (fun h43 => ?_) (fun h43 => ?_)
      ·
       try simp only [zA, zB, zC, zD, zE, zF] at h43
       refine w_skipop rfl rfl rfl ?_
       refine w_y rfl rfl rfl (y_pickT (v := _) rfl rfl rfl rfl) rfl ?_
       refine w_p (y_pickT (v := .bool _) rfl rfl rfl rfl) rfl ?_
       refine w_p (y_assign (v := .bool _) rfl rfl) rfl ?_
       refine w_nil ?_
       refine q_blk_normal ?_
       refine q_then (hK20 _ _ ?_)
       refine w_region ?_
       refine w_p (y_move (v := .int _ _) rfl rfl) rfl ?_
       refine w_p (y_add rfl rfl rfl rfl (by omega) (by omega)) rfl ?_
       refine w_p (y_assign (v := .int _ _) rfl rfl) rfl ?_
       refine w_nil ?_
       refine q_then (hN12 _ _ (Nx.intro (s.size - (i + 1)) (by omega) (by repeat (first | exact agree_mix | refine agree_upd rfl ?_ | refine agree_updL rfl ?_ _ | refine agree_mixin rfl ?_)) ?_))
       exact ⟨i + 1, bp _ _ _ _ _ (name_round s i (by omega) _ (by rw [hfine, Bool.eq_iff_iff]; simp only [*]; simp [nmByte, out] <;> omega)) rfl, by omega, rfl, hs42⟩
      ·
       try simp only [zA, zB, zC, zD, zE, zF] at h43
       refine w_y rfl rfl rfl (y_move (v := .bool _) rfl rfl) rfl ?_
       refine w_y rfl rfl rfl (y_pickF (v := .bool _) rfl rfl rfl rfl) rfl ?_
       refine w_p (y_pickT (v := .bool _) rfl rfl rfl rfl) rfl ?_
       refine w_p (y_assign (v := .bool _) rfl rfl) rfl ?_
       refine w_nil ?_
       refine q_blk_normal ?_
       refine q_then (hK20 _ _ ?_)
       refine w_region ?_
       refine w_p (y_move (v := .int _ _) rfl rfl) rfl ?_
       refine w_p (y_add rfl rfl rfl rfl (by omega) (by omega)) rfl ?_
       refine w_p (y_assign (v := .int _ _) rfl rfl) rfl ?_
       refine w_nil ?_
       refine q_then (hN12 _ _ (Nx.intro (s.size - (i + 1)) (by omega) (by repeat (first | exact agree_mix | refine agree_upd rfl ?_ | refine agree_updL rfl ?_ _ | refine agree_mixin rfl ?_)) ?_))
       exact ⟨i + 1, bp _ _ _ _ _ (name_round s i (by omega) _ (by rw [hfine, Bool.eq_iff_iff]; simp only [*]; simp [nmByte, out] <;> omega)) rfl, by omega, rfl, hs42⟩
     ·
      try simp only [zA, zB, zC, zD, zE, zF] at h39
      refine w_skipop rfl rfl rfl ?_
      refine w_skipop rfl rfl rfl ?_
      refine w_skipop rfl rfl rfl ?_
      refine w_skipop rfl rfl rfl ?_
      refine w_skipop rfl rfl rfl ?_
      refine w_skipop rfl rfl rfl ?_
      refine w_skipop' rfl rfl rfl ?_
      refine w_skipop rfl rfl rfl ?_
      refine w_p (y_pickF (v := _) rfl rfl rfl rfl) rfl ?_
      refine w_p (y_assign (v := .bool _) rfl rfl) rfl ?_
      refine w_nil ?_
      refine q_blk_normal ?_
      refine q_then (hK20 _ _ ?_)
      refine w_region ?_
      refine w_p (y_move (v := .int _ _) rfl rfl) rfl ?_
      refine w_p (y_add rfl rfl rfl rfl (by omega) (by omega)) rfl ?_
      refine w_p (y_assign (v := .int _ _) rfl rfl) rfl ?_
      refine w_nil ?_
      refine q_then (hN12 _ _ (Nx.intro (s.size - (i + 1)) (by omega) (by repeat (first | exact agree_mix | refine agree_upd rfl ?_ | refine agree_updL rfl ?_ _ | refine agree_mixin rfl ?_)) ?_))
      exact ⟨i + 1, bp _ _ _ _ _ (name_round s i (by omega) _ (by rw [hfine, Bool.eq_iff_iff]; simp only [*]; simp [nmByte, out] <;> omega)) rfl, by omega, rfl, hs⟩
   ·
    try simp only [zA, zB, zC, zD, zE, zF] at h19
    refine w_exit ?_
    refine q_then_exit ?_
    refine q_then_exit ?_
    refine q_blk_this ?_
    refine q_then (hK8 _ _ ?_)
    refine w_seq (fun K45 hK44 => ?_)
    refine w_region ?_
    refine w_p (y_move (v := .bool _) rfl rfl) rfl ?_
    refine w_p (y_assign (v := .bool _) rfl rfl) rfl ?_
    refine w_nil ?_
    refine q_then (hK44 _ _ ?_)
    refine w_ret ?_
    refine q_ret (l := [.tmp 2]) (vs := [_]) rfl ⟨⟨rfl, show _ = (.bool _ : Value) from rfl⟩, trivial⟩ ?_
    exact ⟨congrArg Value.bool (by have hil : i = s.size := (by omega); subst hil; rw [← hfine]; unfold nmOk; rw [List.take_of_length_le (by simp)]), hs⟩

theorem c61 {w0 w : World} {F : List (Nat × Obj)} (s : ByteArray) (aa : Option Addr) (l : List ByteArray) (ca : Nat) (hls : s.size ≤ 9223372036854775807) (hla : l.length ≤ 9223372036854775807) (ha : Sl w0 F aa 1 (l.map fun x => [Value.string x])) (hs : St w0 w F) :
  Con Try.prog 61 [.string s, .slice aa l.length ca] w fun v w' => v = .int .i64 (if nmOk s = false then 6 else if has l s then 5 else 0) ∧ St w0 w' F := by
  refine con_of_wc (n := 14) Try.func61 rfl rfl (Nat.le_of_ble_eq_true rfl) ?_
  refine w_seq (fun K2 hK1 => ?_)
  refine w_region ?_
  refine w_p (y_assign (v := _) rfl rfl) rfl ?_
  refine w_nil ?_
  refine q_then (hK1 _ _ ?_)
  refine w_seq (fun K4 hK3 => ?_)
  refine w_region ?_
  refine w_p (y_assign (v := _) rfl rfl) rfl ?_
  refine w_nil ?_
  refine q_then (hK3 _ _ ?_)
  refine w_seq (fun K6 hK5 => ?_)
  refine w_seq (fun K8 hK7 => ?_)
  refine w_region ?_
  refine w_p (y_move (v := .slice _ _ _) rfl rfl) rfl ?_
  refine w_p (y_move (v := .string _) rfl rfl) rfl ?_
  refine w_call want_none Try.call97 rfl rfl rfl rfl (c97 _ _ _ _ (by omega) (by assumption) hs) ?_
  rintro _ w10 ⟨⟨z, rfl, hz⟩, hs11⟩
  refine w_p (y_geq rfl rfl rfl rfl) rfl ?_
  refine w_nil ?_
  refine q_then (hK7 _ _ ?_)
  refine w_cond rfl rfl (fun h12 => ?_) (fun h12 => ?_)
  ·
   try simp only [zA, zB, zC, zD, zE, zF] at h12
   refine w_region ?_
   refine w_p (y_assign (v := _) rfl rfl) rfl ?_
   refine w_nil ?_
   refine q_then (hK5 _ _ ?_)
   refine w_seq (fun K14 hK13 => ?_)
   refine w_seq (fun K16 hK15 => ?_)
   refine w_region ?_
   refine w_p (y_move (v := .string _) rfl rfl) rfl ?_
   refine w_call want_none Try.call98 rfl rfl rfl rfl (c98 _ (by omega) hs11) ?_
   rintro _ w18 ⟨rfl, hs19⟩
   refine w_p (y_not rfl rfl) rfl ?_
   refine w_nil ?_
   refine q_then (hK15 _ _ ?_)
   refine w_cond rfl rfl (fun h20 => ?_) (fun h20 => ?_)
   ·
    try simp only [zA, zB, zC, zD, zE, zF] at h20
    refine w_region ?_
    refine w_p (y_assign (v := _) rfl rfl) rfl ?_
    refine w_nil ?_
    refine q_then (hK13 _ _ ?_)
    refine w_seq (fun K22 hK21 => ?_)
    refine w_region ?_
    refine w_p (y_move (v := .int _ _) rfl rfl) rfl ?_
    refine w_p (y_assign (v := .int _ _) rfl rfl) rfl ?_
    refine w_nil ?_
    refine q_then (hK21 _ _ ?_)
    refine w_ret ?_
    refine q_ret (l := [.tmp 4]) (vs := [_]) rfl ⟨⟨rfl, show _ = (.int _ _ : Value) from rfl⟩, trivial⟩ ?_
    exact ⟨congrArg (Value.int .i64) (by have hz2 : has l s = decide (0 ≤ z) := (by rw [Bool.eq_iff_iff]; simp [hz]); rw [hz2]; clear hz hz2; simp [*] <;> (repeat' split) <;> omega), hs19⟩
   ·
    try simp only [zA, zB, zC, zD, zE, zF] at h20
    refine w_skip ?_
    refine q_then (hK13 _ _ ?_)
    refine w_seq (fun K24 hK23 => ?_)
    refine w_region ?_
    refine w_p (y_move (v := .int _ _) rfl rfl) rfl ?_
    refine w_p (y_assign (v := .int _ _) rfl rfl) rfl ?_
    refine w_nil ?_
    refine q_then (hK23 _ _ ?_)
    refine w_ret ?_
    refine q_ret (l := [.tmp 4]) (vs := [_]) rfl ⟨⟨rfl, show _ = (.int _ _ : Value) from rfl⟩, trivial⟩ ?_
    exact ⟨congrArg (Value.int .i64) (by have hz2 : has l s = decide (0 ≤ z) := (by rw [Bool.eq_iff_iff]; simp [hz]); rw [hz2]; clear hz hz2; simp [*] <;> (repeat' split) <;> omega), hs19⟩
  ·
   try simp only [zA, zB, zC, zD, zE, zF] at h12
   refine w_skip ?_
   refine q_then (hK5 _ _ ?_)
   refine w_seq (fun K26 hK25 => ?_)
   refine w_seq (fun K28 hK27 => ?_)
   refine w_region ?_
   refine w_p (y_move (v := .string _) rfl rfl) rfl ?_
   refine w_call want_none Try.call98 rfl rfl rfl rfl (c98 _ (by omega) hs11) ?_
   rintro _ w30 ⟨rfl, hs31⟩
   refine w_p (y_not rfl rfl) rfl ?_
   refine w_nil ?_
   refine q_then (hK27 _ _ ?_)
   refine w_cond rfl rfl (fun h32 => ?_) (fun h32 => ?_)
   ·
    try simp only [zA, zB, zC, zD, zE, zF] at h32
    refine w_region ?_
    refine w_p (y_assign (v := _) rfl rfl) rfl ?_
    refine w_nil ?_
    refine q_then (hK25 _ _ ?_)
    refine w_seq (fun K34 hK33 => ?_)
    refine w_region ?_
    refine w_p (y_move (v := .int _ _) rfl rfl) rfl ?_
    refine w_p (y_assign (v := .int _ _) rfl rfl) rfl ?_
    refine w_nil ?_
    refine q_then (hK33 _ _ ?_)
    refine w_ret ?_
    refine q_ret (l := [.tmp 4]) (vs := [_]) rfl ⟨⟨rfl, show _ = (.int _ _ : Value) from rfl⟩, trivial⟩ ?_
    exact ⟨congrArg (Value.int .i64) (by have hz2 : has l s = decide (0 ≤ z) := (by rw [Bool.eq_iff_iff]; simp [hz]); rw [hz2]; clear hz hz2; simp [*] <;> (repeat' split) <;> omega), hs31⟩
   ·
    try simp only [zA, zB, zC, zD, zE, zF] at h32
    refine w_skip ?_
    refine q_then (hK25 _ _ ?_)
    refine w_seq (fun K36 hK35 => ?_)
    refine w_region ?_
    refine w_p (y_move (v := .int _ _) rfl rfl) rfl ?_
    refine w_p (y_assign (v := .int _ _) rfl rfl) rfl ?_
    refine w_nil ?_
    refine q_then (hK35 _ _ ?_)
    refine w_ret ?_
    refine q_ret (l := [.tmp 4]) (vs := [_]) rfl ⟨⟨rfl, show _ = (.int _ _ : Value) from rfl⟩, trivial⟩ ?_
    exact ⟨congrArg (Value.int .i64) (by have hz2 : has l s = decide (0 ≤ z) := (by rw [Bool.eq_iff_iff]; simp [hz]); rw [hz2]; clear hz hz2; simp [*] <;> (repeat' split) <;> omega), hs31⟩

theorem any_take {l : List Int} {p : Int → Bool} {i : Nat} (h : (l.take i).any p = false) (hi : i < l.length) (hp : p l[i] = false) : (l.take (i + 1)).any p = false := by
  rw [List.take_succ_eq_append_getElem hi, List.any_append, h]; simp [hp]
theorem c108 {w0 w : World} {F : List (Nat × Obj)} (aa : Option Addr) (l : List Int) (ca : Nat) (hla : l.length ≤ 9223372036854775807) (ha : Sl w0 F aa 1 (l.map fun x => [Value.int .i64 x])) {fk : FuncId} (hC : CF Try.prog fk) (first captured : Array Value) (p : Int → Bool)
    (hp : ∀ x ∈ l, ∀ w, St w0 w F → Con Try.prog fk (first.toList ++ ([.int .i64 x] ++ captured.toList)) w fun v w' => v = .bool (p x) ∧ St w0 w' F) (hs : St w0 w F) :
  Con Try.prog 108 [.slice aa l.length ca, .func (.func fk) first captured] w fun v w' => (∃ z, v = .int .i64 z ∧ decide (0 ≤ z) = l.any p) ∧ St w0 w' F := by
  refine con_of_wc (n := 19) Try.func108 rfl rfl (Nat.le_of_ble_eq_true rfl) ?_
  refine w_seq (fun K2 hK1 => ?_)
  refine w_region ?_
  refine w_p (y_assign (v := _) rfl rfl) rfl ?_
  refine w_nil ?_
  refine q_then (hK1 _ _ ?_)
  refine w_seq (fun K4 hK3 => ?_)
  refine w_seq (fun K6 hK5 => ?_)
  refine w_region ?_
  refine w_p (y_move (v := .slice _ _ _) rfl rfl) rfl ?_
  refine w_p (y_lenS Try.underlying39 rfl rfl) rfl ?_
  refine w_p (y_move (v := _) rfl rfl) rfl ?_
  refine w_nil ?_
  refine q_then (hK5 _ _ ?_)
  refine w_block ?_
  refine w_loop [4, 5, 8, 9, 10, 11, 12, 13, 14, 15, 16, 17, 18] [8] (fun k vs w => ∃ i : Nat, vs = [.int .i64 i] ∧ i ≤ l.length ∧ k = l.length - i ∧ (l.take i).any p = false ∧ St w0 w F) (l.length) ?_ ?_
  ·
   exact ⟨0, rfl, by omega, by omega, by simp, hs⟩
  ·
   intro k vs μ w9 hI K8 hN7
   obtain ⟨i, rfl, hia, rfl, hpre, hs⟩ := hI
   refine w_seq (fun K11 hK10 => ?_)
   refine w_region ?_
   refine w_p (y_lss rfl rfl rfl rfl) rfl ?_
   refine w_nil ?_
   refine q_then (hK10 _ _ ?_)
   refine w_seq (fun K13 hK12 => ?_)
   refine w_cond rfl rfl (fun h14 => ?_) (fun h14 => ?_)
   ·
    try simp only [zA, zB, zC, zD, zE, zF] at h14
    refine w_skip ?_
    refine q_then (hK12 _ _ ?_)
    refine w_seq (fun K16 hK15 => ?_)
    refine w_block ?_
    refine w_seq (fun K18 hK17 => ?_)
    refine w_region ?_
    refine w_p (y_move (v := .int _ _) rfl rfl) rfl ?_
    refine w_p (y_assign (v := .int _ _) rfl rfl) rfl ?_
    refine w_nil ?_
    refine q_then (hK17 _ _ ?_)
    refine w_seq (fun K20 hK19 => ?_)
    have hi2 : i < l.length := by omega
    obtain ⟨ba, oa, rfl, hxa⟩ := sl_ints ha hi2
    refine w_region ?_
    refine w_p (y_move (v := .func _ _ _) rfl rfl) rfl ?_
    refine w_p (y_move (v := .slice _ _ _) rfl rfl) rfl ?_
    refine w_p (y_move (v := .int _ _) rfl rfl) rfl ?_
    refine w_p (y_indexS Try.underlying39 Try.sizeOf3 rfl rfl rfl rfl (i := _) rfl (by omega)) rfl ?_
    refine w_p (y_load1 Try.isAgg3 hs rfl rfl hxa) rfl ?_
    refine w_call want_none hC rfl rfl rfl rfl (hp _ (List.getElem_mem hi2) _ hs) ?_
    rintro _ w22 ⟨rfl, hs23⟩
    refine w_nil ?_
    refine q_then (hK19 _ _ ?_)
    refine w_cond rfl rfl (fun h24 => ?_) (fun h24 => ?_)
    ·
     try simp only [zA, zB, zC, zD, zE, zF] at h24
     refine w_seq (fun K26 hK25 => ?_)
     refine w_region ?_
     refine w_p (y_move (v := .int _ _) rfl rfl) rfl ?_
     refine w_p (y_assign (v := .int _ _) rfl rfl) rfl ?_
     refine w_nil ?_
     refine q_then (hK25 _ _ ?_)
     refine w_ret ?_
     refine q_blk_ret ?_
     refine q_then_ret ?_
     refine q_then_ret ?_
     refine q_blk_ret ?_
     refine q_then_ret ?_
     refine q_ret (l := [.tmp 4]) (vs := [_]) rfl ⟨⟨rfl, show _ = (.int _ _ : Value) from rfl⟩, trivial⟩ ?_
     first
       | exact ⟨⟨-1, rfl, by have hil : i = l.length := (by omega); subst hil; rw [List.take_length] at hpre; rw [hpre]; rfl⟩, hs23⟩
       | exact ⟨⟨(i : Int), rfl, by rw [Bool.eq_iff_iff]; simp only [decide_eq_true_eq, List.any_eq_true]; exact ⟨fun _ => ⟨_, List.getElem_mem hi2, by assumption⟩, fun _ => by omega⟩⟩, hs23⟩
    ·
     try simp only [zA, zB, zC, zD, zE, zF] at h24
     refine w_skip ?_
     refine q_blk_normal ?_
     refine q_then (hK15 _ _ ?_)
     refine w_region ?_
     refine w_p (y_add rfl rfl rfl rfl (by omega) (by omega)) rfl ?_
     refine w_p (y_move (v := .int _ _) rfl rfl) rfl ?_
     refine w_nil ?_
     refine q_then (hN7 _ _ (Nx.intro (l.length - (i + 1)) (by omega) (by repeat (first | exact agree_mix | refine agree_upd rfl ?_ | refine agree_updL rfl ?_ _ | refine agree_mixin rfl ?_)) ?_))
     exact ⟨i + 1, rfl, by omega, rfl, any_take hpre (by omega) (by assumption), hs23⟩
   ·
    try simp only [zA, zB, zC, zD, zE, zF] at h14
    refine w_exit ?_
    refine q_then_exit ?_
    refine q_then_exit ?_
    refine q_blk_this ?_
    refine q_then (hK3 _ _ ?_)
    refine w_seq (fun K28 hK27 => ?_)
    refine w_region ?_
    refine w_p (y_assign (v := _) rfl rfl) rfl ?_
    refine w_nil ?_
    refine q_then (hK27 _ _ ?_)
    refine w_ret ?_
    refine q_ret (l := [.tmp 4]) (vs := [_]) rfl ⟨⟨rfl, show _ = (.int _ _ : Value) from rfl⟩, trivial⟩ ?_
    first
      | exact ⟨⟨-1, rfl, by have hil : i = l.length := (by omega); subst hil; rw [List.take_length] at hpre; rw [hpre]; rfl⟩, hs⟩
      | exact ⟨⟨(i : Int), rfl, by rw [Bool.eq_iff_iff]; simp only [decide_eq_true_eq, List.any_eq_true]; exact ⟨fun _ => ⟨_, List.getElem_mem hi2, by assumption⟩, fun _ => by omega⟩⟩, hs⟩

theorem c92 {w0 w : World} {F : List (Nat × Obj)} (aa : Option Addr) (l : List Int) (ca : Nat) (hla : l.length ≤ 9223372036854775807) (ha : Sl w0 F aa 1 (l.map fun x => [Value.int .i64 x])) {fk : FuncId} (hC : CF Try.prog fk) (first captured : Array Value) (p : Int → Bool)
    (hp : ∀ x ∈ l, ∀ w, St w0 w F → Con Try.prog fk (first.toList ++ ([.int .i64 x] ++ captured.toList)) w fun v w' => v = .bool (p x) ∧ St w0 w' F) (hs : St w0 w F) :
  Con Try.prog 92 [.slice aa l.length ca, .func (.func fk) first captured] w fun v w' => v = .bool (l.any p) ∧ St w0 w' F := by
  refine con_of_wc (n := 9) Try.func92 rfl rfl (Nat.le_of_ble_eq_true rfl) ?_
  refine w_seq (fun K2 hK1 => ?_)
  refine w_region ?_
  refine w_p (y_assign (v := _) rfl rfl) rfl ?_
  refine w_nil ?_
  refine q_then (hK1 _ _ ?_)
  refine w_seq (fun K4 hK3 => ?_)
  refine w_region ?_
  refine w_p (y_move (v := .slice _ _ _) rfl rfl) rfl ?_
  refine w_p (y_move (v := .func _ _ _) rfl rfl) rfl ?_
  refine w_call want_none Try.call108 rfl rfl rfl rfl (c108 _ _ _ hla ha hC _ _ p hp hs) ?_
  rintro _ w6 ⟨⟨z, rfl, hz⟩, hs7⟩
  refine w_p (y_geq rfl rfl rfl rfl) rfl ?_
  refine w_p (y_assign (v := .bool _) rfl rfl) rfl ?_
  refine w_nil ?_
  refine q_then (hK3 _ _ ?_)
  refine w_ret ?_
  refine q_ret (l := [.tmp 4]) (vs := [_]) rfl ⟨⟨rfl, show _ = (.bool _ : Value) from rfl⟩, trivial⟩ ?_
  exact ⟨congrArg Value.bool hz, hs7⟩

theorem c109 {w0 w : World} {F : List (Nat × Obj)} (n lo hi : Int) (b1 b2 : Nat) (h1 : Ats w0 F b1 0 [.int .i64 lo]) (h2 : Ats w0 F b2 0 [.int .i64 hi]) (hs : St w0 w F) :
  Con Try.prog 109 [.int .i64 n, .pointer (some ⟨b1, 0, none⟩), .pointer (some ⟨b2, 0, none⟩)] w fun v w' => v = .bool (out lo hi n) ∧ St w0 w' F := by
  refine con_of_wc (n := 13) Try.func109 rfl rfl (Nat.le_of_ble_eq_true rfl) ?_
  refine w_seq (fun K2 hK1 => ?_)
  refine w_region ?_
  refine w_p (y_assign (v := _) rfl rfl) rfl ?_
  refine w_nil ?_
  refine q_then (hK1 _ _ ?_)
  refine w_seq (fun K4 hK3 => ?_)
  refine w_region ?_
  refine w_p (y_move (v := .int _ _) rfl rfl) rfl ?_
  refine w_p (y_load1 Try.isAgg3 hs rfl rfl h1) rfl ?_
  refine w_p (y_lss rfl rfl rfl rfl) rfl ?_
  refine w_p (y_move (v := .bool _) rfl rfl) rfl ?_
  refine w_split (fun h5 => ?_) (fun h5 => ?_)
  ·
   try simp only [zA, zB, zC, zD, zE, zF] at h5
   refine w_skipop rfl rfl rfl ?_
   refine w_skipop rfl rfl rfl ?_
   refine w_skipop rfl rfl rfl ?_
   refine w_p (y_pickT (v := _) rfl rfl rfl rfl) rfl ?_
   refine w_p (y_assign (v := .bool _) rfl rfl) rfl ?_
   refine w_nil ?_
   refine q_then (hK3 _ _ ?_)
   refine w_ret ?_
   refine q_ret (l := [.tmp 4]) (vs := [_]) rfl ⟨⟨rfl, show _ = (.bool _ : Value) from rfl⟩, trivial⟩ ?_
   exact ⟨congrArg Value.bool (by rw [Bool.eq_iff_iff]; simp [out, *] <;> omega), hs⟩
  ·
   try simp only [zA, zB, zC, zD, zE, zF] at h5
   refine w_y rfl rfl rfl (y_move (v := .int _ _) rfl rfl) rfl ?_
   refine w_y rfl rfl rfl (y_load1 Try.isAgg3 hs rfl rfl h2) rfl ?_
   refine w_y rfl rfl rfl (y_gtr rfl rfl rfl rfl) rfl ?_
   refine w_p (y_pickF (v := .bool _) rfl rfl rfl rfl) rfl ?_
   refine w_p (y_assign (v := .bool _) rfl rfl) rfl ?_
   refine w_nil ?_
   refine q_then (hK3 _ _ ?_)
   refine w_ret ?_
   refine q_ret (l := [.tmp 4]) (vs := [_]) rfl ⟨⟨rfl, show _ = (.bool _ : Value) from rfl⟩, trivial⟩ ?_
   exact ⟨congrArg Value.bool (by rw [Bool.eq_iff_iff]; simp [out, *] <;> omega), hs⟩

theorem c94 {w0 w : World} {F : List (Nat × Obj)} (lo hi : Int) (aa : Option Addr) (l : List Int) (ca : Nat) (hla : l.length ≤ 9223372036854775807) (ha : Sl w0 F aa 1 (l.map fun x => [Value.int .i64 x])) (hs : St w0 w F) :
  Con Try.prog 94 [.int .i64 lo, .int .i64 hi, .slice aa l.length ca] w fun v w' => v = .bool (l.any (out lo hi)) ∧ St w0 w' F := by
  refine con_of_wc (n := 10) Try.func94 rfl rfl (Nat.le_of_ble_eq_true rfl) ?_
  refine w_seq (fun K2 hK1 => ?_)
  refine w_region ?_
  refine w_box (v := .int _ _) (cs := [_]) want_none rfl rfl rfl hs (fun b3 w4 hs5 => ?_)
  refine w_box (v := .int _ _) (cs := [_]) want_none rfl rfl rfl hs5 (fun b6 w7 hs8 => ?_)
  refine w_p (y_assign (v := _) rfl rfl) rfl ?_
  refine w_nil ?_
  refine q_then (hK1 _ _ ?_)
  refine w_seq (fun K10 hK9 => ?_)
  refine w_region ?_
  refine w_p (y_move (v := .slice _ _ _) rfl rfl) rfl ?_
  refine w_p (y_makeFunc (fv := []) (cv := [_, _]) rfl rfl rfl rfl) rfl ?_
  refine w_call want_none Try.call92 rfl rfl rfl rfl (c92 _ _ _ hla ha.cons.cons Try.call109 _ _ (out lo hi) (fun x _ w hs => c109 _ _ _ _ _ (ats_own (i := 1) (vs := [_]) rfl rfl) (ats_own (i := 0) (vs := [_]) rfl rfl) hs) hs8) ?_
  rintro _ w12 ⟨rfl, hs13⟩
  refine w_p (y_assign (v := .bool _) rfl rfl) rfl ?_
  refine w_nil ?_
  refine q_then (hK9 _ _ ?_)
  refine w_ret ?_
  refine q_ret (l := [.tmp 6]) (vs := [_]) rfl ⟨⟨rfl, show _ = (.bool _ : Value) from rfl⟩, trivial⟩ ?_
  exact ⟨rfl, hs13.tail.tail⟩

end Go.Proofs
/- Walks of this seat, printed by gen.py over the engine: what each function returns, in whatever world. No conditions but those of each contract. -/
set_option linter.unusedVariables false
set_option linter.unusedSimpArgs false
set_option maxRecDepth 20000
namespace Go.Proofs
open Go.Rt
attribute [local irreducible] WL WC Con Yd At Ats Sl Agree DW
theorem Try_B_fb0 (x0 : Int) (w : World) : (Instr.buildSlice 39 1 [(0, .int .i64 x0)].toArray).run Try.prog w = .ok (.slice (some ⟨w.heap.size, 0, none⟩) 1 1) (w.alloc (Go.Rt.blk 3 [.int .i64 x0])) := by kernel_rfl
theorem nmBytes_take (l : List UInt8) : ∀ (f : Bool) (i : Nat), nmBytes f l = true → nmBytes f (l.take i) = true := by
  induction l with
  | nil => intro f i h; simpa using h
  | cons x l ih =>
    intro f i h
    cases i with
    | zero => rfl
    | succ i =>
      simp only [nmBytes, Bool.and_eq_true] at h
      simp only [List.take_succ_cons, nmBytes, Bool.and_eq_true]
      exact ⟨h.1, ih _ i h.2⟩
theorem name_bad (s : ByteArray) (i : Nat) (h : i < s.size) (hb : nmByte (decide (i = 0)) s[i] = false) : false = nmOk s := by
  symm
  unfold nmOk
  cases hn : nmBytes true s.data.toList with
  | false => simp
  | true =>
    have := nmBytes_take _ true (i + 1) hn
    rw [name_step s i h, hb] at this
    simp at this
theorem dec (s : ByteArray) (i : Nat) (h : i < s.size) : (s[i].toNat < 128 ∧ (Utf8.decode s i).1 = s[i].toNat ∧ (Utf8.decode s i).2 = 1) ∨ (128 ≤ s[i].toNat ∧ 128 ≤ (Utf8.decode s i).1 ∧ 1 ≤ (Utf8.decode s i).2) := by
  rcases Nat.lt_or_ge s[i].toNat 128 with hlt | hge
  · left; rw [decode_ascii s i h hlt]; exact ⟨hlt, rfl, rfl⟩
  · right; exact ⟨hge, decode_high s i h hge⟩
theorem c56 {w0 w : World} {F : List (Nat × Obj)} (s : ByteArray) (hls : s.size ≤ 9223372036854775807) (hs : St w0 w F) :
  Con Try.prog 56 [.string s] w fun v w' => v = .bool (nmOk s) ∧ St w0 w' F := by
  refine con_of_wc (n := 41) Try.func56 rfl rfl (Nat.le_of_ble_eq_true rfl) ?_
  refine w_seq (fun K2 hK1 => ?_)
  refine w_region ?_
  refine w_p (y_assign (v := _) rfl rfl) rfl ?_
  refine w_nil ?_
  refine q_then (hK1 _ _ ?_)
  refine w_seq (fun K4 hK3 => ?_)
  refine w_seq (fun K6 hK5 => ?_)
  refine w_region ?_
  refine w_p (y_move (v := .string _) rfl rfl) rfl ?_
  refine w_rangeStr want_none Try.underlying9 rfl rfl hs (fun b7 w8 hs9 => ?_)
  refine w_nil ?_
  refine q_then (hK5 _ _ ?_)
  refine w_block ?_
  refine w_loop [2, 3, 4, 5, 8, 9, 10, 11, 12, 13, 14, 15, 16, 17, 18, 19, 20, 21, 22, 23, 24, 25, 26, 27, 28, 29, 30, 31, 32, 33, 34, 35] [] (fun k vs w => ∃ i : Nat, vs = [] ∧ i ≤ s.size ∧ k = s.size - i ∧ nmBytes true (s.data.toList.take i) = true ∧ St w0 w ((b7, .stringIter s i) :: F)) (s.size) ?_ ?_
  ·
   exact ⟨0, rfl, by omega, by omega, rfl, hs9⟩
  ·
   intro k vs μ w12 hI K11 hN10
   obtain ⟨i, rfl, hia, rfl, hpre, hs⟩ := hI
   refine w_seq (fun K14 hK13 => ?_)
   refine w_region ?_
   refine w_nextStr (i := 0) want_none rfl rfl hs rfl (fun hp15 w16 hs17 => ?_) (fun hp15 => ?_)
   ·
    refine w_p (y_extract (v := .bool _) rfl rfl rfl) rfl ?_
    refine w_nil ?_
    refine q_then (hK13 _ _ ?_)
    refine w_seq (fun K19 hK18 => ?_)
    refine w_condT rfl rfl ?_
    refine w_skip ?_
    refine q_then (hK18 _ _ ?_)
    refine w_block ?_
    refine w_seq (fun K21 hK20 => ?_)
    refine w_region ?_
    have hi2 : i < s.size := by omega
    have hd := dec s i hi2
    have hb2 := s[i].toNat_lt
    refine w_p (y_extract (v := .int _ _) rfl rfl rfl) rfl ?_
    refine w_p (y_extract (v := .int _ _) rfl rfl rfl) rfl ?_
    refine w_p (y_assign (v := .int _ _) rfl rfl) rfl ?_
    refine w_p (y_assign (v := .int _ _) rfl rfl) rfl ?_
    refine w_nil ?_
    refine q_then (hK20 _ _ ?_)
    refine w_seq (fun K23 hK22 => ?_)
    refine w_region ?_
    refine w_p (y_move (v := .int _ _) rfl rfl) rfl ?_
    refine w_p (y_geq rfl rfl rfl rfl) rfl ?_
    refine w_p (y_move (v := .bool _) rfl rfl) rfl ?_
    refine w_split (fun h24 => ?_) (fun h24 => ?_)
    ·
     try simp only [zA, zB, zC, zD, zE, zF] at h24
     refine w_y rfl rfl rfl (y_move (v := .int _ _) rfl rfl) rfl ?_
     refine w_y rfl rfl rfl (y_leq rfl rfl rfl rfl) rfl ?_
     refine w_p (y_pickT (v := .bool _) rfl rfl rfl rfl) rfl ?_
     refine w_p (y_assign (v := .bool _) rfl rfl) rfl ?_
     refine w_nil ?_
     refine q_then (hK22 _ _ ?_)
     refine w_seq (fun K26 hK25 => ?_)
     refine w_region ?_
     refine w_p (y_move (v := .bool _) rfl rfl) rfl ?_
     refine w_p (y_not rfl rfl) rfl ?_
     refine w_p (y_move (v := .bool _) rfl rfl) rfl ?_
     refine w_split (fun h27 => ?_) (fun h27 => ?_)
     ·
      try simp only [zA, zB, zC, zD, zE, zF] at h27
      refine w_y rfl rfl rfl (y_move (v := .int _ _) rfl rfl) rfl ?_
      refine w_y rfl rfl rfl (y_eql rfl rfl rfl rfl) rfl ?_
      refine w_y rfl rfl rfl (y_move (v := .bool _) rfl rfl) rfl ?_
      refine w_split (fun h28 => ?_) (fun h28 => ?_)
      ·
       try simp only [zA, zB, zC, zD, zE, zF] at h28
       refine w_skipop rfl rfl rfl ?_
       refine w_skipop rfl rfl rfl ?_
       refine w_skipop rfl rfl rfl ?_
       refine w_skipop' rfl rfl rfl ?_
       refine w_skipop' rfl rfl rfl ?_
       refine w_skipop' rfl rfl rfl ?_
       refine w_skipop' rfl rfl rfl ?_
       refine w_skipop' rfl rfl rfl ?_
       refine w_skipop' rfl rfl rfl ?_
       refine w_skipop rfl rfl rfl ?_
       refine w_y rfl rfl rfl (y_pickT (v := _) rfl rfl rfl rfl) rfl ?_
       refine w_p (y_pickT (v := .bool _) rfl rfl rfl rfl) rfl ?_
       refine w_nil ?_
       refine q_then (hK25 _ _ ?_)
       refine w_condT rfl rfl ?_
       refine w_seq (fun K30 hK29 => ?_)
       refine w_region ?_
       refine w_p (y_assign (v := _) rfl rfl) rfl ?_
       refine w_nil ?_
       refine q_then (hK29 _ _ ?_)
       refine w_ret ?_
       refine q_blk_ret ?_
       refine q_then_ret ?_
       refine q_blk_ret ?_
       refine q_then_ret ?_
       refine q_ret (l := [.tmp 2]) (vs := [_]) rfl ⟨⟨rfl, show _ = (.bool _ : Value) from rfl⟩, trivial⟩ ?_
       first
         | exact ⟨congrArg Value.bool (name_bad s i hi2 (by simp [nmByte]; omega)), hs17.tail⟩
         | exact ⟨congrArg Value.bool (by have hil : i = s.size := (by omega); subst hil; rw [List.take_of_length_le (by simp)] at hpre; unfold nmOk; rw [hpre, Bool.eq_iff_iff]; simp [out] <;> omega), hs17.tail.tail⟩
      ·
       try simp only [zA, zB, zC, zD, zE, zF] at h28
       refine w_y rfl rfl rfl (y_move (v := .int _ _) rfl rfl) rfl ?_
       refine w_y rfl rfl rfl (y_neq rfl rfl rfl rfl) rfl ?_
       refine w_y rfl rfl rfl (y_move (v := .bool _) rfl rfl) rfl ?_
       refine w_split (fun h31 => ?_) (fun h31 => ?_)
       ·
        try simp only [zA, zB, zC, zD, zE, zF] at h31
        refine w_y rfl rfl rfl (y_move (v := .int _ _) rfl rfl) rfl ?_
        refine w_y rfl rfl rfl (y_lss rfl rfl rfl rfl) rfl ?_
        refine w_y rfl rfl rfl (y_move (v := .bool _) rfl rfl) rfl ?_
        refine w_split (fun h32 => ?_) (fun h32 => ?_)
        ·
         try simp only [zA, zB, zC, zD, zE, zF] at h32
         refine w_skipop rfl rfl rfl ?_
         refine w_skipop rfl rfl rfl ?_
         refine w_y rfl rfl rfl (y_pickT (v := _) rfl rfl rfl rfl) rfl ?_
         refine w_y rfl rfl rfl (y_pickT (v := .bool _) rfl rfl rfl rfl) rfl ?_
         refine w_y rfl rfl rfl (y_pickF (v := .bool _) rfl rfl rfl rfl) rfl ?_
         refine w_p (y_pickT (v := .bool _) rfl rfl rfl rfl) rfl ?_
         refine w_nil ?_
         refine q_then (hK25 _ _ ?_)
         refine w_condT rfl rfl ?_
         refine w_seq (fun K34 hK33 => ?_)
         refine w_region ?_
         refine w_p (y_assign (v := _) rfl rfl) rfl ?_
         refine w_nil ?_
         refine q_then (hK33 _ _ ?_)
         refine w_ret ?_
         refine q_blk_ret ?_
         refine q_then_ret ?_
         refine q_blk_ret ?_
         refine q_then_ret ?_
         refine q_ret (l := [.tmp 2]) (vs := [_]) rfl ⟨⟨rfl, show _ = (.bool _ : Value) from rfl⟩, trivial⟩ ?_
         first
           | exact ⟨congrArg Value.bool (name_bad s i hi2 (by simp [nmByte]; omega)), hs17.tail⟩
           | exact ⟨congrArg Value.bool (by have hil : i = s.size := (by omega); subst hil; rw [List.take_of_length_le (by simp)] at hpre; unfold nmOk; rw [hpre, Bool.eq_iff_iff]; simp [out] <;> omega), hs17.tail.tail⟩
        ·
         try simp only [zA, zB, zC, zD, zE, zF] at h32
         refine w_y rfl rfl rfl (y_move (v := .int _ _) rfl rfl) rfl ?_
         refine w_y rfl rfl rfl (y_gtr rfl rfl rfl rfl) rfl ?_
         refine w_y rfl rfl rfl (y_pickF (v := .bool _) rfl rfl rfl rfl) rfl ?_
         refine w_y rfl rfl rfl (y_pickT (v := .bool _) rfl rfl rfl rfl) rfl ?_
         refine w_y rfl rfl rfl (y_pickF (v := .bool _) rfl rfl rfl rfl) rfl ?_
         refine w_p (y_pickT (v := .bool _) rfl rfl rfl rfl) rfl ?_
         refine w_nil ?_
         refine q_then (hK25 _ _ ?_)
         refine w_cond rfl rfl (fun h35 => ?_) (fun h35 => ?_)
         ·
          try simp only [zA, zB, zC, zD, zE, zF] at h35
          refine w_seq (fun K37 hK36 => ?_)
          refine w_region ?_
          refine w_p (y_assign (v := _) rfl rfl) rfl ?_
          refine w_nil ?_
          refine q_then (hK36 _ _ ?_)
          refine w_ret ?_
          refine q_blk_ret ?_
          refine q_then_ret ?_
          refine q_blk_ret ?_
          refine q_then_ret ?_
          refine q_ret (l := [.tmp 2]) (vs := [_]) rfl ⟨⟨rfl, show _ = (.bool _ : Value) from rfl⟩, trivial⟩ ?_
          first
            | exact ⟨congrArg Value.bool (name_bad s i hi2 (by simp [nmByte]; omega)), hs17.tail⟩
            | exact ⟨congrArg Value.bool (by have hil : i = s.size := (by omega); subst hil; rw [List.take_of_length_le (by simp)] at hpre; unfold nmOk; rw [hpre, Bool.eq_iff_iff]; simp [out] <;> omega), hs17.tail.tail⟩
         ·
          try simp only [zA, zB, zC, zD, zE, zF] at h35
          refine w_skip ?_
          refine q_blk_normal ?_
          refine q_then (hN10 _ _ (Nx.intro (s.size - (i + (Utf8.decode s i).2)) ((by omega)) (by repeat (first | exact agree_mix | refine agree_upd rfl ?_ | refine agree_updL rfl ?_ _ | refine agree_mixin rfl ?_)) ?_))
          have hd1 : s[i].toNat < 128 ∧ (Utf8.decode s i).1 = s[i].toNat ∧ (Utf8.decode s i).2 = 1 := (by rcases hd with h | h; exact h; (exfalso; first | omega | (simp only [Bool.or_eq_true, Bool.and_eq_true, decide_eq_true_eq, Bool.not_eq_true', decide_eq_false_iff_not] at *; omega)))
          have hn1 : nmByte (decide (i = 0)) s[i] = true := (by simp [nmByte]; omega)
          refine ⟨i + 1, rfl, by omega, by rw [hd1.2.2], ?_, by rw [← hd1.2.2]; exact hs17⟩
          rw [name_step s i hi2, hpre, hn1]; rfl
       ·
        try simp only [zA, zB, zC, zD, zE, zF] at h31
        refine w_skipop rfl rfl rfl ?_
        refine w_skipop rfl rfl rfl ?_
        refine w_skipop rfl rfl rfl ?_
        refine w_skipop' rfl rfl rfl ?_
        refine w_skipop' rfl rfl rfl ?_
        refine w_skipop rfl rfl rfl ?_
        refine w_y rfl rfl rfl (y_pickF (v := _) rfl rfl rfl rfl) rfl ?_
        refine w_y rfl rfl rfl (y_pickF (v := .bool _) rfl rfl rfl rfl) rfl ?_
        refine w_p (y_pickT (v := .bool _) rfl rfl rfl rfl) rfl ?_
        refine w_nil ?_
        refine q_then (hK25 _ _ ?_)
        refine w_condF rfl rfl ?_
        refine w_skip ?_
        refine q_blk_normal ?_
        refine q_then (hN10 _ _ (Nx.intro (s.size - (i + (Utf8.decode s i).2)) ((by omega)) (by repeat (first | exact agree_mix | refine agree_upd rfl ?_ | refine agree_updL rfl ?_ _ | refine agree_mixin rfl ?_)) ?_))
        have hd1 : s[i].toNat < 128 ∧ (Utf8.decode s i).1 = s[i].toNat ∧ (Utf8.decode s i).2 = 1 := (by rcases hd with h | h; exact h; (exfalso; first | omega | (simp only [Bool.or_eq_true, Bool.and_eq_true, decide_eq_true_eq, Bool.not_eq_true', decide_eq_false_iff_not] at *; omega)))
        have hn1 : nmByte (decide (i = 0)) s[i] = true := (by simp [nmByte]; omega)
        refine ⟨i + 1, rfl, by omega, by rw [hd1.2.2], ?_, by rw [← hd1.2.2]; exact hs17⟩
        rw [name_step s i hi2, hpre, hn1]; rfl
     ·
      try simp only [zA, zB, zC, zD, zE, zF] at h27
      refine w_skipop rfl rfl rfl ?_
      refine w_skipop rfl rfl rfl ?_
      refine w_skipop rfl rfl rfl ?_
      refine w_skipop' rfl rfl rfl ?_
      refine w_skipop' rfl rfl rfl ?_
      refine w_skipop' rfl rfl rfl ?_
      refine w_skipop' rfl rfl rfl ?_
      refine w_skipop' rfl rfl rfl ?_
      refine w_skipop' rfl rfl rfl ?_
      refine w_skipop' rfl rfl rfl ?_
      refine w_skipop' rfl rfl rfl ?_
      refine w_skipop' rfl rfl rfl ?_
      refine w_skipop' rfl rfl rfl ?_
      refine w_skipop rfl rfl rfl ?_
      refine w_p (y_pickF (v := _) rfl rfl rfl rfl) rfl ?_
      refine w_nil ?_
      refine q_then (hK25 _ _ ?_)
      refine w_condF rfl rfl ?_
      refine w_skip ?_
      refine q_blk_normal ?_
      refine q_then (hN10 _ _ (Nx.intro (s.size - (i + (Utf8.decode s i).2)) ((by omega)) (by repeat (first | exact agree_mix | refine agree_upd rfl ?_ | refine agree_updL rfl ?_ _ | refine agree_mixin rfl ?_)) ?_))
      have hd1 : s[i].toNat < 128 ∧ (Utf8.decode s i).1 = s[i].toNat ∧ (Utf8.decode s i).2 = 1 := (by rcases hd with h | h; exact h; (exfalso; first | omega | (simp only [Bool.or_eq_true, Bool.and_eq_true, decide_eq_true_eq, Bool.not_eq_true', decide_eq_false_iff_not] at *; omega)))
      have hn1 : nmByte (decide (i = 0)) s[i] = true := (by simp [nmByte]; omega)
      refine ⟨i + 1, rfl, by omega, by rw [hd1.2.2], ?_, by rw [← hd1.2.2]; exact hs17⟩
      rw [name_step s i hi2, hpre, hn1]; rfl
    ·
     try simp only [zA, zB, zC, zD, zE, zF] at h24
     refine w_skipop rfl rfl rfl ?_
     refine w_skipop rfl rfl rfl ?_
     refine w_p (y_pickF (v := _) rfl rfl rfl rfl) rfl ?_
     refine w_p (y_assign (v := .bool _) rfl rfl) rfl ?_
     refine w_nil ?_
     refine q_then (hK22 _ _ ?_)
     refine w_seq (fun K39 hK38 => ?_)
     refine w_region ?_
     refine w_p (y_move (v := .bool _) rfl rfl) rfl ?_
     refine w_p (y_not rfl rfl) rfl ?_
     refine w_p (y_move (v := .bool _) rfl rfl) rfl ?_
     refine w_y rfl rfl rfl (y_move (v := .int _ _) rfl rfl) rfl ?_
     refine w_y rfl rfl rfl (y_eql rfl rfl rfl rfl) rfl ?_
     refine w_y rfl rfl rfl (y_move (v := .bool _) rfl rfl) rfl ?_
     refine w_split (fun h40 => ?_) (fun h40 => ?_)
     ·
      try simp only [zA, zB, zC, zD, zE, zF] at h40
      refine w_skipop rfl rfl rfl ?_
      refine w_skipop rfl rfl rfl ?_
      refine w_skipop rfl rfl rfl ?_
      refine w_skipop' rfl rfl rfl ?_
      refine w_skipop' rfl rfl rfl ?_
      refine w_skipop' rfl rfl rfl ?_
      refine w_skipop' rfl rfl rfl ?_
      refine w_skipop' rfl rfl rfl ?_
      refine w_skipop' rfl rfl rfl ?_
      refine w_skipop rfl rfl rfl ?_
      refine w_y rfl rfl rfl (y_pickT (v := _) rfl rfl rfl rfl) rfl ?_
      refine w_p (y_pickT (v := .bool _) rfl rfl rfl rfl) rfl ?_
      refine w_nil ?_
      refine q_then (hK38 _ _ ?_)
      refine w_condT rfl rfl ?_
      refine w_seq (fun K42 hK41 => ?_)
      refine w_region ?_
      refine w_p (y_assign (v := _) rfl rfl) rfl ?_
      refine w_nil ?_
      refine q_then (hK41 _ _ ?_)
      refine w_ret ?_
      refine q_blk_ret ?_
      refine q_then_ret ?_
      refine q_blk_ret ?_
      refine q_then_ret ?_
      refine q_ret (l := [.tmp 2]) (vs := [_]) rfl ⟨⟨rfl, show _ = (.bool _ : Value) from rfl⟩, trivial⟩ ?_
      first
        | exact ⟨congrArg Value.bool (name_bad s i hi2 (by simp [nmByte]; omega)), hs17.tail⟩
        | exact ⟨congrArg Value.bool (by have hil : i = s.size := (by omega); subst hil; rw [List.take_of_length_le (by simp)] at hpre; unfold nmOk; rw [hpre, Bool.eq_iff_iff]; simp [out] <;> omega), hs17.tail.tail⟩
     ·
      try simp only [zA, zB, zC, zD, zE, zF] at h40
      refine w_y rfl rfl rfl (y_move (v := .int _ _) rfl rfl) rfl ?_
      refine w_y rfl rfl rfl (y_neq rfl rfl rfl rfl) rfl ?_
      refine w_y rfl rfl rfl (y_move (v := .bool _) rfl rfl) rfl ?_
      refine w_split (fun h43 => ?_) (fun h43 => ?_)
      ·
       try simp only [zA, zB, zC, zD, zE, zF] at h43
       refine w_y rfl rfl rfl (y_move (v := .int _ _) rfl rfl) rfl ?_
       refine w_y rfl rfl rfl (y_lss rfl rfl rfl rfl) rfl ?_
       refine w_y rfl rfl rfl (y_move (v := .bool _) rfl rfl) rfl ?_
       refine w_split (fun h44 => ?_) (fun h44 => ?_)
       ·
        try simp only [zA, zB, zC, zD, zE, zF] at h44
        refine w_skipop rfl rfl rfl ?_
        refine w_skipop rfl rfl rfl ?_
        refine w_y rfl rfl rfl (y_pickT (v := _) rfl rfl rfl rfl) rfl ?_
        refine w_y rfl rfl rfl (y_pickT (v := .bool _) rfl rfl rfl rfl) rfl ?_
        refine w_y rfl rfl rfl (y_pickF (v := .bool _) rfl rfl rfl rfl) rfl ?_
        refine w_p (y_pickT (v := .bool _) rfl rfl rfl rfl) rfl ?_
        refine w_nil ?_
        refine q_then (hK38 _ _ ?_)
        refine w_condT rfl rfl ?_
        refine w_seq (fun K46 hK45 => ?_)
        refine w_region ?_
        refine w_p (y_assign (v := _) rfl rfl) rfl ?_
        refine w_nil ?_
        refine q_then (hK45 _ _ ?_)
        refine w_ret ?_
        refine q_blk_ret ?_
        refine q_then_ret ?_
        refine q_blk_ret ?_
        refine q_then_ret ?_
        refine q_ret (l := [.tmp 2]) (vs := [_]) rfl ⟨⟨rfl, show _ = (.bool _ : Value) from rfl⟩, trivial⟩ ?_
        first
          | exact ⟨congrArg Value.bool (name_bad s i hi2 (by simp [nmByte]; omega)), hs17.tail⟩
          | exact ⟨congrArg Value.bool (by have hil : i = s.size := (by omega); subst hil; rw [List.take_of_length_le (by simp)] at hpre; unfold nmOk; rw [hpre, Bool.eq_iff_iff]; simp [out] <;> omega), hs17.tail.tail⟩
       ·
        try simp only [zA, zB, zC, zD, zE, zF] at h44
        refine w_y rfl rfl rfl (y_move (v := .int _ _) rfl rfl) rfl ?_
        refine w_y rfl rfl rfl (y_gtr rfl rfl rfl rfl) rfl ?_
        refine w_y rfl rfl rfl (y_pickF (v := .bool _) rfl rfl rfl rfl) rfl ?_
        refine w_y rfl rfl rfl (y_pickT (v := .bool _) rfl rfl rfl rfl) rfl ?_
        refine w_y rfl rfl rfl (y_pickF (v := .bool _) rfl rfl rfl rfl) rfl ?_
        refine w_p (y_pickT (v := .bool _) rfl rfl rfl rfl) rfl ?_
        refine w_nil ?_
        refine q_then (hK38 _ _ ?_)
        refine w_cond rfl rfl (fun h47 => ?_) (fun h47 => ?_)
        ·
         try simp only [zA, zB, zC, zD, zE, zF] at h47
         refine w_seq (fun K49 hK48 => ?_)
         refine w_region ?_
         refine w_p (y_assign (v := _) rfl rfl) rfl ?_
         refine w_nil ?_
         refine q_then (hK48 _ _ ?_)
         refine w_ret ?_
         refine q_blk_ret ?_
         refine q_then_ret ?_
         refine q_blk_ret ?_
         refine q_then_ret ?_
         refine q_ret (l := [.tmp 2]) (vs := [_]) rfl ⟨⟨rfl, show _ = (.bool _ : Value) from rfl⟩, trivial⟩ ?_
         first
           | exact ⟨congrArg Value.bool (name_bad s i hi2 (by simp [nmByte]; omega)), hs17.tail⟩
           | exact ⟨congrArg Value.bool (by have hil : i = s.size := (by omega); subst hil; rw [List.take_of_length_le (by simp)] at hpre; unfold nmOk; rw [hpre, Bool.eq_iff_iff]; simp [out] <;> omega), hs17.tail.tail⟩
        ·
         try simp only [zA, zB, zC, zD, zE, zF] at h47
         refine w_skip ?_
         refine q_blk_normal ?_
         refine q_then (hN10 _ _ (Nx.intro (s.size - (i + (Utf8.decode s i).2)) ((by omega)) (by repeat (first | exact agree_mix | refine agree_upd rfl ?_ | refine agree_updL rfl ?_ _ | refine agree_mixin rfl ?_)) ?_))
         have hd1 : s[i].toNat < 128 ∧ (Utf8.decode s i).1 = s[i].toNat ∧ (Utf8.decode s i).2 = 1 := (by rcases hd with h | h; exact h; (exfalso; first | omega | (simp only [Bool.or_eq_true, Bool.and_eq_true, decide_eq_true_eq, Bool.not_eq_true', decide_eq_false_iff_not] at *; omega)))
         have hn1 : nmByte (decide (i = 0)) s[i] = true := (by simp [nmByte]; omega)
         refine ⟨i + 1, rfl, by omega, by rw [hd1.2.2], ?_, by rw [← hd1.2.2]; exact hs17⟩
         rw [name_step s i hi2, hpre, hn1]; rfl
      ·
       try simp only [zA, zB, zC, zD, zE, zF] at h43
       refine w_skipop rfl rfl rfl ?_
       refine w_skipop rfl rfl rfl ?_
       refine w_skipop rfl rfl rfl ?_
       refine w_skipop' rfl rfl rfl ?_
       refine w_skipop' rfl rfl rfl ?_
       refine w_skipop rfl rfl rfl ?_
       refine w_y rfl rfl rfl (y_pickF (v := _) rfl rfl rfl rfl) rfl ?_
       refine w_y rfl rfl rfl (y_pickF (v := .bool _) rfl rfl rfl rfl) rfl ?_
       refine w_p (y_pickT (v := .bool _) rfl rfl rfl rfl) rfl ?_
       refine w_nil ?_
       refine q_then (hK38 _ _ ?_)
       refine w_condF rfl rfl ?_
       refine w_skip ?_
       refine q_blk_normal ?_
       refine q_then (hN10 _ _ (Nx.intro (s.size - (i + (Utf8.decode s i).2)) ((by omega)) (by repeat (first | exact agree_mix | refine agree_upd rfl ?_ | refine agree_updL rfl ?_ _ | refine agree_mixin rfl ?_)) ?_))
       have hd1 : s[i].toNat < 128 ∧ (Utf8.decode s i).1 = s[i].toNat ∧ (Utf8.decode s i).2 = 1 := (by rcases hd with h | h; exact h; (exfalso; first | omega | (simp only [Bool.or_eq_true, Bool.and_eq_true, decide_eq_true_eq, Bool.not_eq_true', decide_eq_false_iff_not] at *; omega)))
       have hn1 : nmByte (decide (i = 0)) s[i] = true := (by simp [nmByte]; omega)
       refine ⟨i + 1, rfl, by omega, by rw [hd1.2.2], ?_, by rw [← hd1.2.2]; exact hs17⟩
       rw [name_step s i hi2, hpre, hn1]; rfl
   ·
    refine w_p (y_extract (v := .bool _) rfl rfl rfl) rfl ?_
    refine w_nil ?_
    refine q_then (hK13 _ _ ?_)
    refine w_seq (fun K51 hK50 => ?_)
    refine w_condF rfl rfl ?_
    refine w_exit ?_
    refine q_then_exit ?_
    refine q_then_exit ?_
    refine q_blk_this ?_
    refine q_then (hK3 _ _ ?_)
    refine w_seq (fun K53 hK52 => ?_)
    refine w_region ?_
    refine w_p (y_move (v := .string _) rfl rfl) rfl ?_
    refine w_p (y_lenStr Try.underlying9 rfl rfl) rfl ?_
    refine w_bslice (ps := [(0, _)]) (pv := [(0, .int _ _)]) (cs := [_]) want_none rfl rfl (fun w => Try_B_fb0 _ w) hs (fun b54 w55 hs56 => ?_)
    refine w_call want_none Try.call94 rfl rfl rfl rfl (c94 _ _ _ [_] _ (by simp) (sl_own (i := 0) (rows := [[_]]) rfl (by simp) rfl) hs56) ?_
    rintro _ w58 ⟨rfl, hs59⟩
    refine w_p (y_not rfl rfl) rfl ?_
    refine w_p (y_assign (v := .bool _) rfl rfl) rfl ?_
    refine w_nil ?_
    refine q_then (hK52 _ _ ?_)
    refine w_ret ?_
    refine q_ret (l := [.tmp 2]) (vs := [_]) rfl ⟨⟨rfl, show _ = (.bool _ : Value) from rfl⟩, trivial⟩ ?_
    first
      | exact ⟨congrArg Value.bool (name_bad s i hi2 (by simp [nmByte]; omega)), hs59.tail⟩
      | exact ⟨congrArg Value.bool (by have hil : i = s.size := (by omega); subst hil; rw [List.take_of_length_le (by simp)] at hpre; unfold nmOk; rw [hpre, Bool.eq_iff_iff]; simp [out] <;> omega), hs59.tail.tail⟩

theorem c93 {w0 w : World} {F : List (Nat × Obj)} (n lo hi : Int) (b1 b2 : Nat) (h1 : Ats w0 F b1 0 [.int .i64 lo]) (h2 : Ats w0 F b2 0 [.int .i64 hi]) (hs : St w0 w F) :
  Con Try.prog 93 [.int .i64 n, .pointer (some ⟨b1, 0, none⟩), .pointer (some ⟨b2, 0, none⟩)] w fun v w' => v = .bool (out lo hi n) ∧ St w0 w' F := by
  refine con_of_wc (n := 13) Try.func93 rfl rfl (Nat.le_of_ble_eq_true rfl) ?_
  refine w_seq (fun K2 hK1 => ?_)
  refine w_region ?_
  refine w_p (y_assign (v := _) rfl rfl) rfl ?_
  refine w_nil ?_
  refine q_then (hK1 _ _ ?_)
  refine w_seq (fun K4 hK3 => ?_)
  refine w_region ?_
  refine w_p (y_move (v := .int _ _) rfl rfl) rfl ?_
  refine w_p (y_load1 Try.isAgg3 hs rfl rfl h1) rfl ?_
  refine w_p (y_lss rfl rfl rfl rfl) rfl ?_
  refine w_p (y_move (v := .bool _) rfl rfl) rfl ?_
  refine w_split (fun h5 => ?_) (fun h5 => ?_)
  ·
   try simp only [zA, zB, zC, zD, zE, zF] at h5
   refine w_skipop rfl rfl rfl ?_
   refine w_skipop rfl rfl rfl ?_
   refine w_skipop rfl rfl rfl ?_
   refine w_p (y_pickT (v := _) rfl rfl rfl rfl) rfl ?_
   refine w_p (y_assign (v := .bool _) rfl rfl) rfl ?_
   refine w_nil ?_
   refine q_then (hK3 _ _ ?_)
   refine w_ret ?_
   refine q_ret (l := [.tmp 4]) (vs := [_]) rfl ⟨⟨rfl, show _ = (.bool _ : Value) from rfl⟩, trivial⟩ ?_
   exact ⟨congrArg Value.bool (by rw [Bool.eq_iff_iff]; simp [out, *] <;> omega), hs⟩
  ·
   try simp only [zA, zB, zC, zD, zE, zF] at h5
   refine w_y rfl rfl rfl (y_move (v := .int _ _) rfl rfl) rfl ?_
   refine w_y rfl rfl rfl (y_load1 Try.isAgg3 hs rfl rfl h2) rfl ?_
   refine w_y rfl rfl rfl (y_gtr rfl rfl rfl rfl) rfl ?_
   refine w_p (y_pickF (v := .bool _) rfl rfl rfl rfl) rfl ?_
   refine w_p (y_assign (v := .bool _) rfl rfl) rfl ?_
   refine w_nil ?_
   refine q_then (hK3 _ _ ?_)
   refine w_ret ?_
   refine q_ret (l := [.tmp 4]) (vs := [_]) rfl ⟨⟨rfl, show _ = (.bool _ : Value) from rfl⟩, trivial⟩ ?_
   exact ⟨congrArg Value.bool (by rw [Bool.eq_iff_iff]; simp [out, *] <;> omega), hs⟩

theorem c51 {w0 w : World} {F : List (Nat × Obj)} (lo hi : Int) (aa : Option Addr) (l : List Int) (ca : Nat) (hla : l.length ≤ 9223372036854775807) (ha : Sl w0 F aa 1 (l.map fun x => [Value.int .i64 x])) (hs : St w0 w F) :
  Con Try.prog 51 [.int .i64 lo, .int .i64 hi, .slice aa l.length ca] w fun v w' => v = .bool (l.any (out lo hi)) ∧ St w0 w' F := by
  refine con_of_wc (n := 10) Try.func51 rfl rfl (Nat.le_of_ble_eq_true rfl) ?_
  refine w_seq (fun K2 hK1 => ?_)
  refine w_region ?_
  refine w_box (v := .int _ _) (cs := [_]) want_none rfl rfl rfl hs (fun b3 w4 hs5 => ?_)
  refine w_box (v := .int _ _) (cs := [_]) want_none rfl rfl rfl hs5 (fun b6 w7 hs8 => ?_)
  refine w_p (y_assign (v := _) rfl rfl) rfl ?_
  refine w_nil ?_
  refine q_then (hK1 _ _ ?_)
  refine w_seq (fun K10 hK9 => ?_)
  refine w_region ?_
  refine w_p (y_move (v := .slice _ _ _) rfl rfl) rfl ?_
  refine w_p (y_makeFunc (fv := []) (cv := [_, _]) rfl rfl rfl rfl) rfl ?_
  refine w_call want_none Try.call92 rfl rfl rfl rfl (c92 _ _ _ hla ha.cons.cons Try.call93 _ _ (out lo hi) (fun x _ w hs => c93 _ _ _ _ _ (ats_own (i := 1) (vs := [_]) rfl rfl) (ats_own (i := 0) (vs := [_]) rfl rfl) hs) hs8) ?_
  rintro _ w12 ⟨rfl, hs13⟩
  refine w_p (y_assign (v := .bool _) rfl rfl) rfl ?_
  refine w_nil ?_
  refine q_then (hK9 _ _ ?_)
  refine w_ret ?_
  refine q_ret (l := [.tmp 6]) (vs := [_]) rfl ⟨⟨rfl, show _ = (.bool _ : Value) from rfl⟩, trivial⟩ ?_
  exact ⟨rfl, hs13.tail.tail⟩

end Go.Proofs
/- Plain words of the hand layer: lots, their errors, their ways. No conditions. -/
set_option linter.unusedSimpArgs false
set_option linter.unusedVariables false
namespace Go.Rt.Ha
structure Grade where
  name : ByteArray
  hands : Int
  scars : Int
structure Bunch where
  lo : Int
  hi : Int
  slo : Int
  shi : Int
structure Count where
  bits : Int
  hands : Int
structure Lot where
  grades : List Grade
  bunches : List Bunch
  counts : List Count
def Grade.cells (g : Grade) : List Value := [.string g.name, .int .i64 g.hands, .int .i64 g.scars]
def Bunch.cells (b : Bunch) : List Value := [.int .i64 b.lo, .int .i64 b.hi, .int .i64 b.slo, .int .i64 b.shi]
def Count.cells (c : Count) : List Value := [.int .i64 c.bits, .int .i64 c.hands]
/-- Where a lot's lists lie. -/
structure At3 where
  ag : Option Addr
  cg : Nat
  ab : Option Addr
  cb : Nat
  ac : Option Addr
  cc : Nat
def Lot.cells (l : Lot) (p : At3) : List Value := [.slice p.ag l.grades.length p.cg, .slice p.ab l.bunches.length p.cb, .slice p.ac l.counts.length p.cc]
def grows (l : List Grade) : List (List Value) := l.map Grade.cells
def brows (l : List Bunch) : List (List Value) := l.map Bunch.cells
def crows (l : List Count) : List (List Value) := l.map Count.cells
/-- The first thing with an error, and what it is. -/
def firstE {α : Type} (err : List α → α → Int) : List α → Int → List α → Int × Int
  | _, _, [] => (0, 0)
  | b, i, x :: l => if err b x = 0 then firstE err (b ++ [x]) (i + 1) l else (i, err b x)
theorem firstE_step {α : Type} {err : List α → α → Int} {l : List α} {i : Nat} (hi : i < l.length) (h : err (l.take i) l[i] = 0) : firstE err (l.take i) i (l.drop i) = firstE err (l.take (i + 1)) (i + 1 : Nat) (l.drop (i + 1)) := by
  rw [List.drop_eq_getElem_cons hi]
  simp only [firstE, h, if_true]
  rw [List.take_succ_eq_append_getElem hi]; rfl
theorem firstE_stop {α : Type} {err : List α → α → Int} {l : List α} {i : Nat} (hi : i < l.length) (h : err (l.take i) l[i] ≠ 0) : firstE err (l.take i) i (l.drop i) = ((i : Int), err (l.take i) l[i]) := by
  rw [List.drop_eq_getElem_cons hi]
  simp only [firstE, if_neg h]
theorem firstE_end {α : Type} {err : List α → α → Int} {l : List α} {i : Nat} (hi : l.length ≤ i) (b : List α) : firstE err b i (l.drop i) = (0, 0) := by
  rw [List.drop_of_length_le hi]; rfl
/-- The error of a name behind others. -/
def nameE (before : List ByteArray) (s : ByteArray) : Int := if nmOk s then (if has before s then 5 else 0) else 6
/-- Whether a grade is not below the one ahead of it. -/
def notBelow (before : List Grade) (g : Grade) : Bool := match before.getLast? with | none => false | some q => decide (q.hands ≤ g.hands) || decide (g.scars < q.scars)
def gradeE (before : List Grade) (g : Grade) : Int := if nameE (before.map (·.name)) g.name ≠ 0 then nameE (before.map (·.name)) g.name else if out 1 12 g.hands || out 0 9 g.scars then 7 else if notBelow before g then 2 else 0
def bunchE (_before : List Bunch) (b : Bunch) : Int := if out 1 12 b.lo || out 1 12 b.hi || (out 0 9 b.slo || out 0 9 b.shi) then 7 else if out 0 3 (b.hi - b.lo) || decide (b.shi < b.slo) then 2 else 0
def countE (n : Nat) (_before : List Count) (c : Count) : Int := if out 1 (2 ^ n - 1) c.bits then 4 else if out 0 72 c.hands then 7 else 0
def failE {α : Type} (err : List α → α → Int) (lo most : Int) (l : List α) : Int × Int := if out lo most l.length then (0, 3) else firstE err [] 0 l
def check (l : Lot) : Int × Int × Int :=
  if (failE gradeE 1 4 l.grades).2 ≠ 0 then (1, failE gradeE 1 4 l.grades) else if (failE bunchE 0 6 l.bunches).2 ≠ 0 then (2, failE bunchE 0 6 l.bunches) else if (failE (countE l.bunches.length) 0 4 l.counts).2 ≠ 0 then (3, failE (countE l.bunches.length) 0 4 l.counts) else (0, 0, 0)
/-! ### Ways -/
/-- The numbers from one to another. -/
def upto (lo : Int) : Nat → List Int
  | 0 => []
  | n + 1 => lo :: upto (lo + 1) n
def spanL (lo hi : Int) : List Int := upto lo (hi + 1 - lo).toNat
/-- All numbers of hands that bunches can have. -/
def felt : List Bunch → List (List Int)
  | [] => [[]]
  | b :: l => (spanL b.lo b.hi).flatMap fun n => (felt l).map (n :: ·)
theorem felt_snoc (l : List Bunch) (b : Bunch) : felt (l ++ [b]) = (felt l).flatMap fun h => (spanL b.lo b.hi).map fun n => h ++ [n] := by
  induction l with
  | nil => simp [felt, List.flatMap]; induction spanL b.lo b.hi with
    | nil => rfl
    | cons a l ih => simp [ih]
  | cons a l ih => simp only [List.cons_append, felt, ih, List.flatMap_assoc, List.map_flatMap, List.flatMap_map, List.map_map]; rfl
def bit (b j : Nat) : Nat := (b >>> j) &&& 1
/-- How many hands the bunches of a count have. -/
def counted (bits : Nat) : Nat → List Int → Int
  | _, [] => 0
  | i, h :: l => (if bit bits i = 1 then h else 0) + counted bits (i + 1) l
/-- Whether all counts, but some, are so. -/
def soFrom (but : Nat) (h : List Int) : Nat → List Count → Bool
  | _, [] => true
  | i, c :: l => (decide (bit but i = 1) || decide (counted c.bits.toNat 0 h = c.hands)) && soFrom but h (i + 1) l
def ways (l : Lot) (but : Nat) : List (List Int) := (felt l.bunches).filter fun h => soFrom but h 0 l.counts
/-! ### Grades -/
/-- The grade of so many hands and scars; -1: refused. -/
def ofG : List Grade → Int → Int → Int → Int
  | [], _, _, _ => -1
  | g :: l, i, h, s => if g.hands ≤ h ∧ s ≤ g.scars then i else ofG l (i + 1) h s
def orG (gs : List Grade) (h : Int) : List Int → Nat
  | [] => 0
  | s :: l => 1 <<< (ofG gs 0 h s + 1).toNat ||| orG gs h l
def gradesB (l : Lot) (b : Bunch) (h : Int) : Nat := orG l.grades h (spanL b.slo b.shi)
end Go.Rt.Ha
/- Plain words of the hand layer: what the program's functions return. No conditions. -/
set_option linter.unusedSimpArgs false
set_option linter.unusedVariables false
namespace Go.Rt.Ha
def idxE (n : Int) (below : Nat) : Int := if out 0 (below - 1) n then 4 else 0
/-- The error of a lot, another one, or that there is no way. -/
def enterE (l : Lot) (e : Int) : Int := if (check l).2.2 ≠ 0 then (check l).2.2 else if e ≠ 0 then e else if ways l 0 = [] then 8 else 0
def at_ (h : List Int) (b : Nat) : Int := h.getD b 0
def joinS (b : Nat) (s : Int × Int) (h : List Int) : Int × Int := (min s.1 (at_ h b), max s.2 (at_ h b))
def spanW (b : Nat) (ws : List (List Int)) : Int × Int := ws.foldl (joinS b) (12, 0)
/-- The grades that a bunch can be of, as bits, refused first. -/
def bunchOf (l : Lot) (b : Nat) : Bunch := l.bunches.getD b ⟨0, 0, 0, 0⟩
def setW (l : Lot) (b : Nat) (ws : List (List Int)) : Nat := ws.foldl (fun s h => s ||| gradesB l (bunchOf l b) (at_ h b)) 0
def handsP (l : Lot) (b : Int) : (Int × Int) × Int := if enterE l (idxE b l.bunches.length) ≠ 0 then ((0, 0), enterE l (idxE b l.bunches.length)) else (spanW b.toNat (ways l 0), 0)
/-- Those below n that are in a set, as a list. -/
def listL (b : Nat) : Nat → List Int
  | 0 => []
  | n + 1 => listL b n ++ if bit b n = 1 then [(n : Int)] else []
def gradeP (l : Lot) (b : Int) : List Int × Int := if enterE l (idxE b l.bunches.length) ≠ 0 then ([], enterE l (idxE b l.bunches.length)) else ((listL (setW l b.toNat (ways l 0)) (l.grades.length + 1)).map (· - 1), 0)
/-- How many hands the bunches of a grade have in a way, at least and at most: the first k bunches. -/
def sumsTo (l : Lot) (g : Nat) (h : List Int) : Nat → Int × Int
  | 0 => (0, 0)
  | k + 1 => let s := sumsTo l g h k; let z := gradesB l (bunchOf l k) (at_ h k)
    if z = 2 <<< g then (s.1 + at_ h k, s.2 + at_ h k) else if bit z (g + 1) = 1 then (s.1, s.2 + at_ h k) else s
def sums (l : Lot) (g : Nat) (h : List Int) : Int × Int := sumsTo l g h l.bunches.length
def totalW (l : Lot) (g : Nat) (ws : List (List Int)) : Int × Int := ws.foldl (fun s h => (min s.1 (sums l g h).1, max s.2 (sums l g h).2)) (72, 0)
def totalP (l : Lot) (g : Int) : (Int × Int) × Int := if enterE l (idxE g l.grades.length) ≠ 0 then ((0, 0), enterE l (idxE g l.grades.length)) else (totalW l g.toNat (ways l 0), 0)
def sureTo (l : Lot) (ws : List (List Int)) : Nat → List Int
  | 0 => []
  | k + 1 => sureTo l ws k ++ if setW l k ws = 1 then [(k : Int)] else []
def mayTo (l : Lot) (ws : List (List Int)) : Nat → List Int
  | 0 => []
  | k + 1 => mayTo l ws k ++ if setW l k ws &&& 1 = 1 then [(k : Int)] else []
def refusedP (l : Lot) : List Int × List Int × Int := if enterE l 0 ≠ 0 then ([], [], enterE l 0) else (sureTo l (ways l 0) l.bunches.length, mayTo l (ways l 0) l.bunches.length, 0)
/-- Fewer, or as many that come before. -/
def before (a b : List Int) : Bool := decide (a.length < b.length) || (decide (a.length = b.length) && less a b)
def fewStep (do_ : Nat → Bool) (n : Nat) (s : List Int × Bool) (b : Nat) : List Int × Bool := if s.2 && before s.1 (listL b n) then s else if do_ b then (listL b n, true) else s
def fewTo (do_ : Nat → Bool) (n : Nat) : Nat → List Int × Bool
  | 0 => ([], false)
  | k + 1 => fewStep do_ n (fewTo do_ n k) k
/-- The first of the fewest that do. -/
def fewest (do_ : Nat → Bool) (n : Nat) : List Int × Bool := fewTo do_ n (1 <<< n)
def fitTo (l : Lot) (g : Nat) (ws : List (List Int)) : Nat → Nat
  | 0 => 0
  | k + 1 => if setW l k ws &&& 1 = 1 ∨ 0 < setW l k ws >>> (g + 2) then fitTo l g ws k else fitTo l g ws k ||| 1 <<< k
def someOf (h : List Int) : List Int → Int
  | [] => 0
  | b :: r => at_ h b.toNat + someOf h r
def bitDiff (a b : Nat) : Nat := a &&& (a ^^^ b)
def pickDo (l : Lot) (g : Nat) (many : Int) (b : Nat) : Bool := decide (bitDiff b (fitTo l g (ways l 0) l.bunches.length) = 0) && (ways l 0).all fun h => decide (many ≤ someOf h (listL b l.bunches.length))
def pickE (l : Lot) (g many : Int) : Int := if idxE g l.grades.length ≠ 0 then idxE g l.grades.length else if out 0 72 many then 7 else 0
def pickP (l : Lot) (g many : Int) : List Int × Int :=
  if enterE l (pickE l g many) ≠ 0 then ([], enterE l (pickE l g many)) else
  if (fewest (pickDo l g.toNat many) l.bunches.length).2 then ((fewest (pickDo l g.toNat many) l.bunches.length).1, 0) else ([], 9)
/-- How often a number is a bunch's. -/
def often (b : Nat) (n : Int) (ws : List (List Int)) : Int := (ws.filter fun h => decide (at_ h b = n)).length
def mostTo (b : Nat) (ws : List (List Int)) : Nat → Int
  | 0 => 0
  | k + 1 => max (mostTo b ws k) (often b k ws)
def leftW (b : Nat) (ws : List (List Int)) : Int := mostTo b ws 13
def nextTo (ws : List (List Int)) : Nat → Int × Int
  | 0 => (-1, 0)
  | k + 1 => let s := nextTo ws k
    if leftW k ws < ws.length ∧ (s.1 < 0 ∨ leftW k ws < s.2) then ((k : Int), leftW k ws) else s
def nextP (l : Lot) : Int × Int × Int := if enterE l 0 ≠ 0 then (0, 0, enterE l 0) else if (nextTo (ways l 0) l.bunches.length).1 < 0 then (0, 0, 9) else ((nextTo (ways l 0) l.bunches.length).1, (nextTo (ways l 0) l.bunches.length).2, 0)
def wrongP (l : Lot) : List Int × Int := if (check l).2.2 ≠ 0 then ([], (check l).2.2) else ((fewest (fun b => !(ways l b).isEmpty) l.counts.length).1, 0)
end Go.Rt.Ha
/- Plain words of lists in their order, and of all sets of some numbers, for all layers. No conditions. -/
set_option linter.unusedSimpArgs false
set_option linter.unusedVariables false
namespace Go.Rt
def hasI (l : List Int) (z : Int) : Bool := l.any fun y => decide (y = z)
/-- The numbers below n that are not in a list. -/
def othersTo (l : List Int) : Nat → List Int
  | 0 => []
  | i + 1 => if hasI l i then othersTo l i else othersTo l i ++ [(i : Int)]
/-! ### The order of lists -/
theorem less_trans : ∀ (a b c : List Int), less a b = true → less b c = true → less a c = true
  | a, [], _, h, _ => by cases a <;> simp [less] at h
  | _, _ :: _, [], _, h => by simp [less] at h
  | [], _ :: _, _ :: _, _, _ => rfl
  | x :: a, y :: b, z :: c, h1, h2 => by
    simp only [less] at h1 h2 ⊢
    by_cases e1 : x = y
    · subst e1
      simp only [if_true] at h1
      by_cases e2 : x = z
      · subst e2; simp only [if_true] at h2 ⊢; exact less_trans a b c h1 h2
      · rw [if_neg e2] at h2 ⊢; exact h2
    · rw [if_neg e1] at h1
      by_cases e2 : y = z
      · subst e2; rw [if_neg e1]; exact h1
      · rw [if_neg e2] at h2
        simp only [decide_eq_true_eq] at h1 h2
        rw [if_neg (by omega)]; simp only [decide_eq_true_eq]; omega
/-! ### All lists of ascending numbers -/
def leastN (x : List Int) : Int := match x.getLast? with | none => 0 | some z => z + 1
def nextTo (x : List Int) (n : Nat) : List (List Int) := ((List.range n).filter fun q : Nat => decide (leastN x ≤ (q : Int))).map fun q : Nat => x ++ [(q : Int)]
def choices (below : Nat) : Nat → List (List Int)
  | 0 => [[]]
  | i + 1 => (choices below i).flatMap fun x => nextTo x below
def chTo (below i k : Nat) : List (List Int) := ((choices below i).take k).flatMap fun x => nextTo x below
theorem flat_le {α β : Type} {f : α → List β} {m : Nat} : ∀ (l : List α), (∀ x ∈ l, (f x).length ≤ m) → (l.flatMap f).length ≤ l.length * m
  | [], _ => by simp
  | a :: l, h => by
    rw [List.flatMap_cons, List.length_append, List.length_cons, Nat.succ_mul]
    have h1 := h a (.head _)
    have h2 := flat_le l fun x hx => h x (.tail _ hx)
    omega
theorem choices_len {below : Nat} : ∀ (i : Nat), ∀ x ∈ choices below i, x.length = i ∧ ∀ z ∈ x, 0 ≤ z ∧ z < below
  | 0, x, h => by simp [choices] at h; subst h; simp
  | i + 1, x, h => by
    simp only [choices, List.mem_flatMap] at h
    obtain ⟨y, hy, h⟩ := h
    have ih := choices_len i y hy
    unfold nextTo at h
    obtain ⟨q, hq, rfl⟩ := List.mem_map.1 h
    have hq := (List.mem_filter.1 hq).1
    rw [List.mem_range] at hq
    refine ⟨by simp [ih.1], fun z hz => ?_⟩
    rcases List.mem_append.1 hz with h | h
    · exact ih.2 z h
    · simp at h; omega
/-! ### All sets of some numbers -/
def pickL (shops l : List Int) : List Int := l.map fun z => shops.getD z.toNat 0
def setsMany (shops : List Int) (many : Nat) : List (List Int) := (choices shops.length many).map (pickL shops)
def setsTo (shops : List Int) : Nat → List (List Int)
  | 0 => []
  | k + 1 => setsTo shops k ++ setsMany shops k
def setsL (shops : List Int) : List (List Int) := setsTo shops (shops.length + 1)
/-! ### Fewer, or as many that come before -/
namespace Ls
def before (a b : List Int) : Bool := decide (a.length < b.length) || (decide (a.length = b.length) && less a b)
theorem before_trans {a b c : List Int} (h1 : before a b = true) (h2 : before b c = true) : before a c = true := by
  unfold before at *
  simp only [Bool.or_eq_true, Bool.and_eq_true, decide_eq_true_eq] at *
  rcases h1 with h1 | ⟨h1, h1'⟩ <;> rcases h2 with h2 | ⟨h2, h2'⟩
  · left; omega
  · left; omega
  · left; omega
  · right; exact ⟨by omega, less_trans _ _ _ h1' h2'⟩
theorem before_total {a b : List Int} (h1 : before a b = false) (h2 : before b a = false) : a = b := by
  unfold before at *
  simp only [Bool.or_eq_false_iff, Bool.and_eq_false_iff, decide_eq_false_iff_not] at *
  have hl : a.length = b.length := by omega
  have e1 : less a b = false := by rcases h1.2 with h | h; omega; exact h
  have e2 : less b a = false := by rcases h2.2 with h | h; omega; exact h
  exact less_both a b hl e1 e2
end Ls
end Go.Rt
/- Plain laws of the hand layer: the first of the fewest. No conditions. -/
set_option linter.unusedSimpArgs false
set_option linter.unusedVariables false
namespace Go.Rt.Ha
/-- What the program has after some sets. -/
structure FewS (do_ : Nat → Bool) (n k : Nat) (s : List Int × Bool) : Prop where
  no : s.2 = false → s.1 = [] ∧ ∀ b < k, do_ b = false
  yes : s.2 = true → ∃ b, b < k ∧ do_ b = true ∧ s.1 = listL b n ∧ ∀ c < k, do_ c = true → listL c n = s.1 ∨ before s.1 (listL c n) = true
theorem few_min (do_ : Nat → Bool) (n : Nat) : ∀ k, FewS do_ n k (fewTo do_ n k)
  | 0 => ⟨fun _ => ⟨rfl, fun b h => by omega⟩, fun h => by cases h⟩
  | k + 1 => by
    have ih := few_min do_ n k
    simp only [fewTo]
    generalize fewTo do_ n k = s at ih
    obtain ⟨l, f⟩ := s
    unfold fewStep
    cases f with
    | false =>
      have h1 := ih.no rfl
      simp only [Bool.false_and, Bool.false_eq_true, if_false]
      cases hd : do_ k with
      | false =>
        simp only [Bool.false_eq_true, if_false]
        refine ⟨fun _ => ⟨h1.1, fun b hb => ?_⟩, fun h => by cases h⟩
        by_cases e : b = k
        · subst e; exact hd
        · exact h1.2 b (by omega)
      | true =>
        simp only [if_true]
        refine ⟨(fun h => by cases h), fun _ => ⟨k, by omega, hd, rfl, fun c hc hdc => ?_⟩⟩
        by_cases e : c = k
        · subst e; exact .inl rfl
        · rw [h1.2 c (by omega)] at hdc; cases hdc
    | true =>
      obtain ⟨b, hb, hdb, e1, hm⟩ := ih.yes rfl
      simp only at e1 hm
      simp only [Bool.true_and]
      cases hbf : before l (listL k n) with
      | true =>
        simp only [if_true]
        refine ⟨(fun h => by cases h), fun _ => ⟨b, by omega, hdb, e1, fun c hc hdc => ?_⟩⟩
        by_cases e : c = k
        · subst e; exact .inr hbf
        · exact hm c (by omega) hdc
      | false =>
        simp only [Bool.false_eq_true, if_false]
        cases hd : do_ k with
        | false =>
          simp only [Bool.false_eq_true, if_false]
          refine ⟨(fun h => by cases h), fun _ => ⟨b, by omega, hdb, e1, fun c hc hdc => ?_⟩⟩
          by_cases e : c = k
          · subst e; rw [hd] at hdc; cases hdc
          · exact hm c (by omega) hdc
        | true =>
          simp only [if_true]
          refine ⟨(fun h => by cases h), fun _ => ⟨k, by omega, hd, rfl, fun c hc hdc => ?_⟩⟩
          by_cases e : c = k
          · subst e; exact .inl rfl
          · have hkl : l = listL k n ∨ before (listL k n) l = true := by
              cases hb2 : before (listL k n) l with
              | true => exact .inr rfl
              | false => exact .inl (Ls.before_total hbf hb2)
            rcases hm c (by omega) hdc with h | h
            · rw [h]; rcases hkl with h2 | h2
              · exact .inl h2
              · exact .inr h2
            · rcases hkl with h2 | h2
              · rw [← h2]; exact .inr h
              · exact .inr (Ls.before_trans h2 h)
end Go.Rt.Ha
/- Plain laws of the hand layer: grades as lists and as bits, spans, sums. No conditions. -/
set_option linter.unusedSimpArgs false
set_option linter.unusedVariables false
namespace Go.Rt.Ha
theorem bit_iff (b j : Nat) : bit b j = 1 ↔ b.testBit j = true := by
  unfold bit Nat.testBit
  rw [Nat.and_comm 1, Nat.and_one_is_mod]
  have := Nat.mod_two_eq_zero_or_one (b >>> j)
  rcases this with h | h <;> rw [h] <;> simp
/-- The reference's list of grades. -/
def gStep (gs : List Grade) (h : Int) (out : List Int) (s : Int) : List Int := if hasI out (ofG gs 0 h s) then out else out ++ [ofG gs 0 h s]
def gradesL (gs : List Grade) (h : Int) (ss : List Int) : List Int := ss.foldl (gStep gs h) []
/-- A bunch is of one grade only. -/
def onlyG (l : List Int) (g : Int) : Bool := decide (l.length = 1) && decide (l.getD 0 0 = g)
/-! ### Ways together -/
def scarsOf (l : Lot) (b : Nat) : List Int := spanL (bunchOf l b).slo (bunchOf l b).shi
def couldR (l : Lot) (ws : List (List Int)) (b : Nat) (g : Int) : Bool := ws.any fun h => hasI (gradesL l.grades (at_ h b) (scarsOf l b)) g
def mustR (l : Lot) (ws : List (List Int)) (b : Nat) (g : Int) : Bool := ws.all fun h => onlyG (gradesL l.grades (at_ h b) (scarsOf l b)) g
def gradeTo (l : Lot) (ws : List (List Int)) (b : Nat) : Nat → List Int
  | 0 => []
  | k + 1 => gradeTo l ws b k ++ if couldR l ws b ((k : Int) - 1) then [(k : Int) - 1] else []
/-! ### Spans -/
def spanR (b : Nat) : List (List Int) → Int × Int
  | [] => (0, 0)
  | h :: r => r.foldl (joinS b) (at_ h b, at_ h b)
end Go.Rt.Ha
/- Plain laws of the hand layer: lots that are, their ways, totals. No conditions. -/
set_option linter.unusedSimpArgs false
set_option linter.unusedVariables false
namespace Go.Rt.Ha
structure Lot.Ok (l : Lot) : Prop where
  lg : 1 ≤ l.grades.length ∧ l.grades.length ≤ 4
  lb : l.bunches.length ≤ 6
  lc : l.counts.length ≤ 4
  grade : ∀ g ∈ l.grades, 1 ≤ g.hands ∧ g.hands ≤ 12 ∧ 0 ≤ g.scars ∧ g.scars ≤ 9
  bunch : ∀ b ∈ l.bunches, 1 ≤ b.lo ∧ b.lo ≤ b.hi ∧ b.hi ≤ 12 ∧ b.hi - b.lo ≤ 3 ∧ 0 ≤ b.slo ∧ b.slo ≤ b.shi ∧ b.shi ≤ 9
  count : ∀ c ∈ l.counts, 1 ≤ c.bits ∧ c.bits ≤ 2 ^ l.bunches.length - 1 ∧ 0 ≤ c.hands ∧ c.hands ≤ 72
theorem firstE_zero {α : Type} (err : List α → α → Int) : ∀ (l b : List α) (i : Int), (firstE err b i l).2 = 0 → ∀ k (h : k < l.length), err (b ++ l.take k) l[k] = 0
  | [], _, _, _, k, h => by simp at h
  | x :: l, b, i, h, k, hk => by
    unfold firstE at h
    by_cases he : err b x = 0
    · rw [if_pos he] at h
      match k with
      | 0 => simpa using he
      | k + 1 =>
        have := firstE_zero err l (b ++ [x]) (i + 1) h k (by simpa using hk)
        simpa using this
    · rw [if_neg he] at h
      exact absurd h he
theorem failE_zero {α : Type} {err : List α → α → Int} {lo most : Int} {l : List α} (h : (failE err lo most l).2 = 0) : (lo ≤ l.length ∧ (l.length : Int) ≤ most) ∧ ∀ k (h : k < l.length), err (l.take k) l[k] = 0 := by
  unfold failE at h
  split at h
  · cases h
  · rename_i ho
    unfold out at ho
    simp only [Bool.or_eq_true, decide_eq_true_eq, not_or] at ho
    exact ⟨by omega, fun k hk => by simpa using firstE_zero err l [] 0 h k hk⟩
theorem check_parts {l : Lot} (h : (check l).2.2 = 0) : (failE gradeE 1 4 l.grades).2 = 0 ∧ (failE bunchE 0 6 l.bunches).2 = 0 ∧ (failE (countE l.bunches.length) 0 4 l.counts).2 = 0 := by
  unfold check at h
  split at h
  · rename_i h1; exact absurd h h1
  · rename_i h1
    split at h
    · rename_i h2; exact absurd h h2
    · rename_i h2
      split at h
      · rename_i h3; exact absurd h h3
      · rename_i h3
        exact ⟨by omega, by omega, by omega⟩
theorem check_ok {l : Lot} (h : (check l).2.2 = 0) : l.Ok := by
  obtain ⟨h1, h2, h3⟩ := check_parts h
  have h1 := failE_zero h1
  have h2 := failE_zero h2
  have h3 := failE_zero h3
  refine ⟨by omega, by omega, by omega, fun g hg => ?_, fun b hb => ?_, fun c hc => ?_⟩
  · obtain ⟨k, hk, rfl⟩ := List.getElem_of_mem hg
    have := h1.2 k hk
    unfold gradeE out at this
    split at this
    · rename_i h; exact absurd this h
    · split at this
      · cases this
      · rename_i h
        simp only [Bool.or_eq_true, decide_eq_true_eq, not_or] at h
        omega
  · obtain ⟨k, hk, rfl⟩ := List.getElem_of_mem hb
    have := h2.2 k hk
    unfold bunchE out at this
    split at this
    · cases this
    · rename_i h
      simp only [Bool.or_eq_true, decide_eq_true_eq, not_or] at h
      split at this
      · cases this
      · rename_i h'
        simp only [Bool.or_eq_true, decide_eq_true_eq, not_or] at h'
        omega
  · obtain ⟨k, hk, rfl⟩ := List.getElem_of_mem hc
    have := h3.2 k hk
    unfold countE out at this
    split at this
    · cases this
    · rename_i h
      simp only [Bool.or_eq_true, decide_eq_true_eq, not_or] at h
      split at this
      · cases this
      · rename_i h'
        simp only [Bool.or_eq_true, decide_eq_true_eq, not_or] at h'
        omega
theorem upto_mem : ∀ (n : Nat) (lo z : Int), z ∈ upto lo n ↔ lo ≤ z ∧ z < lo + n
  | 0, lo, z => by simp [upto]
  | n + 1, lo, z => by
    rw [upto, List.mem_cons, upto_mem n (lo + 1) z]
    omega
theorem span_mem {lo hi z : Int} : z ∈ spanL lo hi ↔ lo ≤ z ∧ z ≤ hi := by
  unfold spanL; rw [upto_mem]; omega
/-- What is felt. -/
theorem felt_in : ∀ (bs : List Bunch) (h : List Int), h ∈ felt bs ↔ h.length = bs.length ∧ ∀ i (hi : i < bs.length), bs[i].lo ≤ at_ h i ∧ at_ h i ≤ bs[i].hi
  | [], h => by simp [felt]
  | b :: bs, h => by
    simp only [felt, List.mem_flatMap, List.mem_map]
    constructor
    · rintro ⟨n, hn, r, hr, rfl⟩
      have ih := (felt_in bs r).1 hr
      refine ⟨by simp [ih.1], fun i hi => ?_⟩
      cases i with
      | zero => exact span_mem.1 hn
      | succ i => exact ih.2 i (by simpa using hi)
    · rintro ⟨h1, h2⟩
      cases h with
      | nil => simp at h1
      | cons n r =>
        refine ⟨n, span_mem.2 (h2 0 (by simp)), r, (felt_in bs r).2 ⟨by simpa using h1, fun i hi => h2 (i + 1) (by simpa using hi)⟩, rfl⟩
/-! ### Totals -/
def sumsR (l : Lot) (g : Int) (h : List Int) : Nat → Int × Int
  | 0 => (0, 0)
  | k + 1 => let s := sumsR l g h k; let z := gradesL l.grades (at_ h k) (scarsOf l k)
    if hasI z g then ((if z.length = 1 then s.1 + at_ h k else s.1), s.2 + at_ h k) else s
def totStepR (l : Lot) (g : Int) (s : Int × Int) (h : List Int) : Int × Int := (min (min s.1 (sumsR l g h l.bunches.length).1) (sumsR l g h l.bunches.length).2, max (max s.2 (sumsR l g h l.bunches.length).1) (sumsR l g h l.bunches.length).2)
def totalR (l : Lot) (g : Int) (ws : List (List Int)) : Int × Int := ws.foldl (totStepR l g) (72, 0)
end Go.Rt.Ha
/- Plain laws of the hand layer: Pick, Next and Wrong, as the reference has them. No conditions. -/
set_option linter.unusedSimpArgs false
set_option linter.unusedVariables false
namespace Go.Rt.Ha
/-! ### Pick -/
/-- No grade from one to another. -/
def noneTo (l : Lot) (ws : List (List Int)) (b g : Nat) : Nat → Bool
  | 0 => !couldR l ws b (-1)
  | k + 1 => noneTo l ws b g k && !couldR l ws b ((g : Int) + 1 + k)
def fitR (l : Lot) (ws : List (List Int)) (g : Nat) : Nat → List Int
  | 0 => []
  | b + 1 => fitR l ws g b ++ if noneTo l ws b g (l.grades.length - (g + 1)) then [(b : Int)] else []
def leastR (ws : List (List Int)) (own : List Int) : Int := ws.foldl (fun s h => min s (someOf h own)) 72
def pickR (l : Lot) (g many : Int) : List Int × Int :=
  if enterE l (pickE l g many) ≠ 0 then ([], enterE l (pickE l g many)) else
  match (setsL (fitR l (ways l 0) g.toNat l.bunches.length)).find? fun own => decide (many ≤ leastR (ways l 0) own) with | some x => (x, 0) | none => ([], 9)
/-! ### Wrong -/
def soR (but : List Int) (h : List Int) : Nat → List Count → Bool
  | _, [] => true
  | i, c :: l => (hasI but i || decide (counted c.bits.toNat 0 h = c.hands)) && soR but h (i + 1) l
def waysR (l : Lot) (but : List Int) : List (List Int) := (felt l.bunches).filter fun h => soR but h 0 l.counts
def choicesTo (n : Nat) : Nat → List (List Int)
  | 0 => []
  | k + 1 => choicesTo n k ++ choices n k
def wrongR (l : Lot) : List Int × Int := if (check l).2.2 ≠ 0 then ([], (check l).2.2) else
  match (choicesTo l.counts.length l.counts.length).find? fun x => !(waysR l x).isEmpty with | some x => (x, 0) | none => ((choices l.counts.length l.counts.length).getD 0 [], 0)
theorem choices_fin : ∀ n < 5, setsL (listL (2 ^ n - 1) n) = choicesTo n n ++ [listL (2 ^ n - 1) n] ∧ choices n n = [listL (2 ^ n - 1) n] ∧ ∀ b < 2 ^ n, bitDiff b (2 ^ n - 1) = 0 := by decide +kernel
end Go.Rt.Ha
/- Plain laws of the hand layer: Hands, Grade, Total, Refused and Next, as the reference has them. No conditions. -/
set_option linter.unusedSimpArgs false
set_option linter.unusedVariables false
namespace Go.Rt.Ha
structure SpanF (b : Nat) (ws : List (List Int)) (s : Int × Int) : Prop where
  all : ∀ h ∈ ws, s.1 ≤ at_ h b ∧ at_ h b ≤ s.2
  lo : ∃ h ∈ ws, at_ h b = s.1
  hi : ∃ h ∈ ws, at_ h b = s.2
def handsR (l : Lot) (b : Int) : (Int × Int) × Int := if enterE l (idxE b l.bunches.length) ≠ 0 then ((0, 0), enterE l (idxE b l.bunches.length)) else (spanR b.toNat (ways l 0), 0)
def gradeR (l : Lot) (b : Int) : List Int × Int := if enterE l (idxE b l.bunches.length) ≠ 0 then ([], enterE l (idxE b l.bunches.length)) else (gradeTo l (ways l 0) b.toNat (l.grades.length + 1), 0)
def totR (l : Lot) (g : Int) : (Int × Int) × Int := if enterE l (idxE g l.grades.length) ≠ 0 then ((0, 0), enterE l (idxE g l.grades.length)) else (totalR l g (ways l 0), 0)
def sureR (l : Lot) (ws : List (List Int)) : Nat → List Int
  | 0 => []
  | k + 1 => sureR l ws k ++ if mustR l ws k (-1) then [(k : Int)] else []
def mayR (l : Lot) (ws : List (List Int)) : Nat → List Int
  | 0 => []
  | k + 1 => mayR l ws k ++ if couldR l ws k (-1) then [(k : Int)] else []
def refusedR (l : Lot) : List Int × List Int × Int := if enterE l 0 ≠ 0 then ([], [], enterE l 0) else (sureR l (ways l 0) l.bunches.length, mayR l (ways l 0) l.bunches.length, 0)
def nextRTo (ws : List (List Int)) : Nat → Int × Int
  | 0 => (-1, 0)
  | k + 1 => let s := nextRTo ws k
    if (spanR k ws).1 < (spanR k ws).2 ∧ (s.1 < 0 ∨ leftW k ws < s.2) then ((k : Int), leftW k ws) else s
def nextR (l : Lot) : Int × Int × Int := if enterE l 0 ≠ 0 then (0, 0, enterE l 0) else if (nextRTo (ways l 0) l.bunches.length).1 < 0 then (0, 0, 9) else ((nextRTo (ways l 0) l.bunches.length).1, (nextRTo (ways l 0) l.bunches.length).2, 0)
end Go.Rt.Ha
/- Plain words of the chain layer: boards, their errors, how counters fare, truths. No conditions. -/
set_option linter.unusedSimpArgs false
set_option linter.unusedVariables false
namespace Go.Rt.Ch
open Go.Rt.Ha
structure Hour where
  hold : Int
  lo : Int
  hi : Int
structure Ctr where
  name : ByteArray
  skip : Int
  twice : Int
  start : Int
  zero : List Int
  shown : List Int
structure Board where
  holds : Int
  hours : List Hour
  ctrs : List Ctr
/-- Where a counter's lists lie. -/
structure AtC where
  az : Option Addr
  cz : Nat
  «as» : Option Addr
  cs : Nat
/-- Where a board's lists lie. -/
structure AtB where
  ah : Option Addr
  ch : Nat
  ac : Option Addr
  cc : Nat
  pc : Nat → AtC
def Hour.cells (h : Hour) : List Value := [.int .i64 h.hold, .int .i64 h.lo, .int .i64 h.hi]
def Ctr.cells (c : Ctr) (p : AtC) : List Value := [.string c.name, .int .i64 c.skip, .int .i64 c.twice, .int .i64 c.start, .slice p.az c.zero.length p.cz, .slice p.as c.shown.length p.cs]
def Board.cells (b : Board) (p : AtB) : List Value := [.int .i64 b.holds, .slice p.ah b.hours.length p.ch, .slice p.ac b.ctrs.length p.cc]
def hrows (l : List Hour) : List (List Value) := l.map Hour.cells
def krows (l : List Ctr) (p : Nat → AtC) : List (List Value) := l.mapIdx fun i c => c.cells (p i)
/-! ### Errors -/
def hourE (holds : Int) (_before : List Hour) (h : Hour) : Int := if out 0 (holds - 1) h.hold then 4 else if out 0 40 h.lo || out 0 40 h.hi then 7 else if out 0 3 (h.hi - h.lo) then 2 else 0
def ctrE (n : Nat) (before : List Ctr) (c : Ctr) : Int :=
  if nameE (before.map (·.name)) c.name ≠ 0 then nameE (before.map (·.name)) c.name else if (out 0 3 c.skip || out 0 3 c.twice) || out 0 99 c.start then 7 else if c.zero.length ≠ n ∨ c.shown.length ≠ n then 3 else if c.zero.any (out 0 2) || c.shown.any (out (-1) 99) then 7 else 0
def check (b : Board) : Int × Int × Int :=
  if out 1 3 b.holds then (1, 0, 7) else if (failE (hourE b.holds) 0 4 b.hours).2 ≠ 0 then (2, failE (hourE b.holds) 0 4 b.hours) else if (failE (ctrE b.hours.length) 0 2 b.ctrs).2 ≠ 0 then (3, failE (ctrE b.hours.length) 0 2 b.ctrs) else (0, 0, 0)
/-! ### How a counter fares -/
/-- What it counts, what it shows then, whether it was set to 0 before. -/
structure Way where
  counts : Int
  shows : Int
  zero : Bool
deriving DecidableEq
def Way.cells (w : Way) : List Value := [.int .i64 w.counts, .int .i64 w.shows, .bool w.zero]
/-- Whether a counter can not have been set to 0 before an hour (false), and can have been (true). -/
def canZ (c : Ctr) (a : Nat) (z : Bool) : Bool := if z then decide (c.zero.getD a 0 ≠ 0) else decide (c.zero.getD a 0 ≠ 1)
def shOf (s : Int) (z : Bool) (k : Int) : Int := ((if z then 0 else s) + k) % 100
def wayR (c : Ctr) (a : Nat) (s : Int) (z : Bool) (k : Int) : List Way :=
  if c.shown.getD a 0 = -1 ∨ c.shown.getD a 0 = shOf s z k then [⟨k, shOf s z k, z⟩] else []
def waysZ (c : Ctr) (h : Hour) (a : Nat) (s : Int) (z : Bool) : List Way := if canZ c a z then (spanL (max 0 (h.lo - c.skip)) (h.hi + c.twice)).flatMap (wayR c a s z) else []
/-- All ways in which a counter can go on, whatever the load is. -/
def waysC (c : Ctr) (h : Hour) (a : Nat) (s : Int) : List Way := waysZ c h a s false ++ waysZ c h a s true
def stepsZ (c : Ctr) (a : Nat) (s load : Int) (z : Bool) : List Way := if canZ c a z then (spanL (0 - c.skip) c.twice).flatMap fun e => if 0 ≤ load + e then wayR c a s z (load + e) else [] else []
/-- All ways in which a counter can go on, by the load. -/
def stepsC (c : Ctr) (a : Nat) (s load : Int) : List Way := stepsZ c a s load false ++ stepsZ c a s load true
/-- What is asked of ways: whether, in an hour, something is so. -/
abbrev Quest := Nat → Int → Way → Bool
def ld (l : List Int) (k : Nat) : Int := l.getD k 0
def fareTo (c : Ctr) (l : List Int) (q : Quest) : Nat → List (Int × Bool)
  | 0 => [(c.start, false)]
  | k + 1 => (fareTo c l q k).flatMap fun x => (stepsC c k x.1 (ld l k)).map fun w => (w.shows, x.2 || q k (ld l k) w)
def notF (c : Ctr) (l : List Int) (q : Quest) (n : Nat) : Bool := (fareTo c l q n).any fun x => !x.2
def metF (c : Ctr) (l : List Int) (q : Quest) (n : Nat) : Bool := (fareTo c l q n).any fun x => x.2
def slips : Quest := fun _ load w => decide (w.counts ≠ load)
def zeroed (a : Nat) : Quest := fun k _ w => decide (k = a) && w.zero
/-! ### Truths -/
def bun (b : Board) : List Bunch := b.hours.map fun h => ⟨h.lo, h.hi, 0, 0⟩
def canL (b : Board) (l : List Int) : Bool := b.ctrs.all fun c => notF c l slips b.hours.length || metF c l slips b.hours.length
def truths (b : Board) : List (List Int) := (felt (bun b)).filter (canL b)
def inTo (b : Board) (l : List Int) (hold : Int) : Nat → Int
  | 0 => 0
  | k + 1 => inTo b l hold k + if (b.hours.getD k ⟨0, 0, 0⟩).hold = hold then ld l k else 0
/-- What lies in a hold. -/
def inH (b : Board) (hold : Int) (l : List Int) : Int := inTo b l hold b.hours.length
/-- The least span of a number of all of some loads. -/
def hullL (f : List Int → Int) : List (List Int) → Int × Int
  | [] => (0, 0)
  | l :: r => r.foldl (fun s x => (min s.1 (f x), max s.2 (f x))) (f l, f l)
/-! ### What the program's functions return -/
def enterE (b : Board) (e : Int) : Int := if (check b).2.2 ≠ 0 then (check b).2.2 else if e ≠ 0 then e else if truths b = [] then 8 else 0
def idxE (n below : Int) : Int := if out 0 (below - 1) n then 4 else 0
def wentP (b : Board) (a : Int) : (Int × Int) × Int := if enterE b (idxE a b.hours.length) ≠ 0 then ((0, 0), enterE b (idxE a b.hours.length)) else (hullL (fun l => ld l a.toNat) (truths b), 0)
def holdP (b : Board) (h : Int) : (Int × Int) × Int := if enterE b (idxE h b.holds) ≠ 0 then ((0, 0), enterE b (idxE h b.holds)) else (hullL (inH b h) (truths b), 0)
/-- What is told of something, if it can be not so, and so. -/
def toldN (not met : Bool) : Int := if not then (if met then 0 else 2) else 1
def ctrOf (b : Board) (c : Nat) : Ctr := b.ctrs.getD c ⟨ByteArray.empty, 0, 0, 0, [], []⟩
def askN (b : Board) (c : Nat) (q : Quest) : Bool := (truths b).any fun l => notF (ctrOf b c) l q b.hours.length
def askM (b : Board) (c : Nat) (q : Quest) : Bool := (truths b).any fun l => metF (ctrOf b c) l q b.hours.length
def rightP (b : Board) (c : Int) : Int × Int := if enterE b (idxE c b.ctrs.length) ≠ 0 then (0, enterE b (idxE c b.ctrs.length)) else (toldN (askM b c.toNat slips) (askN b c.toNat slips), 0)
def idx2 (c n a m : Int) : Int := if idxE c n ≠ 0 then idxE c n else idxE a m
def zeroP (b : Board) (c a : Int) : Int × Int :=
  if enterE b (idx2 c b.ctrs.length a b.hours.length) ≠ 0 then (0, enterE b (idx2 c b.ctrs.length a b.hours.length)) else (toldN (askN b c.toNat (zeroed a.toNat)) (askM b c.toNat (zeroed a.toNat)), 0)
/-- Whether two loads are the same at the hours of a set. -/
def sameAt (set n : Nat) (l m : List Int) : Bool := (listL set n).all fun z => decide (ld l z.toNat = ld m z.toNat)
def tellsS (b : Board) (hold within : Int) (set : Nat) : Bool := (truths b).all fun l => decide ((hullL (inH b hold) ((truths b).filter (sameAt set b.hours.length l))).2 - (hullL (inH b hold) ((truths b).filter (sameAt set b.hours.length l))).1 ≤ within)
def looksE (b : Board) (hold within : Int) : Int := if idxE hold b.holds ≠ 0 then idxE hold b.holds else if within < 0 then 7 else 0
def looksP (b : Board) (hold within : Int) : List Int × Int := if enterE b (looksE b hold within) ≠ 0 then ([], enterE b (looksE b hold within)) else ((fewest (tellsS b hold within) b.hours.length).1, 0)
/-- A counter without some of the numbers that it shows. -/
def butC (n set i : Nat) (c : Ctr) : Ctr := { c with shown := (List.range c.shown.length).map fun k => if bit set (i * n + k) = 1 then -1 else c.shown.getD k 0 }
def butFrom (n set : Nat) : Nat → List Ctr → List Ctr
  | _, [] => []
  | i, c :: l => butC n set i c :: butFrom n set (i + 1) l
def butB (b : Board) (set : Nat) : Board := { b with ctrs := butFrom b.hours.length set 0 b.ctrs }
def shownAt (b : Board) (k : Nat) : Int := (ctrOf b (k / b.hours.length)).shown.getD (k % b.hours.length) 0
def wrongS (b : Board) (set : Nat) : Bool := ((List.range (b.hours.length * b.ctrs.length)).all fun k => !(decide (bit set k = 1) && decide (shownAt b k = -1))) && !(truths (butB b set)).isEmpty
def wrongP (b : Board) : List Int × Int := if (check b).2.2 ≠ 0 then ([], (check b).2.2) else ((fewest (wrongS b) (b.hours.length * b.ctrs.length)).1, 0)
end Go.Rt.Ch
/- Plain facts of the chain layer: what a board without an error is like; ways by the load and whatever the load is. No conditions. -/
set_option linter.unusedSimpArgs false
set_option linter.unusedVariables false
namespace Go.Rt.Ch
open Go.Rt.Ha
structure Hour.Ok (holds : Int) (h : Hour) : Prop where
  hold : 0 ≤ h.hold ∧ h.hold < holds
  lo : 0 ≤ h.lo
  le : h.lo ≤ h.hi
  hi : h.hi ≤ 40
  w : h.hi - h.lo ≤ 3
structure Ctr.Ok (n : Nat) (c : Ctr) : Prop where
  skip : 0 ≤ c.skip ∧ c.skip ≤ 3
  twice : 0 ≤ c.twice ∧ c.twice ≤ 3
  start : 0 ≤ c.start ∧ c.start ≤ 99
  lz : c.zero.length = n
  ls : c.shown.length = n
  zero : ∀ z ∈ c.zero, 0 ≤ z ∧ z ≤ 2
  shown : ∀ z ∈ c.shown, -1 ≤ z ∧ z ≤ 99
  nm : nmOk c.name = true
structure Board.Ok (b : Board) : Prop where
  holds : 1 ≤ b.holds ∧ b.holds ≤ 3
  lh : b.hours.length ≤ 4
  lc : b.ctrs.length ≤ 2
  hour : ∀ h ∈ b.hours, h.Ok b.holds
  ctr : ∀ c ∈ b.ctrs, c.Ok b.hours.length
theorem out_f {lo hi n : Int} : out lo hi n = false ↔ lo ≤ n ∧ n ≤ hi := by
  unfold out
  rw [Bool.or_eq_false_iff, decide_eq_false_iff_not, decide_eq_false_iff_not]; omega
theorem hourE_zero {holds : Int} {bf : List Hour} {h : Hour} (e : hourE holds bf h = 0) : h.Ok holds := by
  unfold hourE at e
  cases h1 : out 0 (holds - 1) h.hold with
  | true => rw [h1, if_pos rfl] at e; cases e
  | false =>
    rw [h1, if_neg (by simp)] at e
    cases h2 : (out 0 40 h.lo || out 0 40 h.hi) with
    | true => rw [h2, if_pos rfl] at e; cases e
    | false =>
      rw [h2, if_neg (by simp)] at e
      cases h3 : out 0 3 (h.hi - h.lo) with
      | true => rw [h3, if_pos rfl] at e; cases e
      | false =>
        rw [Bool.or_eq_false_iff] at h2
        have a1 := out_f.1 h1
        have a2 := out_f.1 h2.1
        have a3 := out_f.1 h2.2
        have a4 := out_f.1 h3
        exact ⟨by omega, by omega, by omega, by omega, by omega⟩
theorem any_out {lo hi : Int} {l : List Int} (h : l.any (out lo hi) = false) : ∀ z ∈ l, lo ≤ z ∧ z ≤ hi := fun z hz => out_f.1 (by
  cases e : out lo hi z with
  | false => rfl
  | true => rw [List.any_eq_true.2 ⟨z, hz, e⟩] at h; cases h)
theorem ctrE_zero {n : Nat} {bf : List Ctr} {c : Ctr} (e : ctrE n bf c = 0) : c.Ok n := by
  unfold ctrE at e
  by_cases h0 : nameE (bf.map (·.name)) c.name = 0
  · rw [if_neg (by simp [h0])] at e
    cases h1 : ((out 0 3 c.skip || out 0 3 c.twice) || out 0 99 c.start) with
    | true => rw [h1, if_pos rfl] at e; cases e
    | false =>
      rw [h1, if_neg (by simp)] at e
      by_cases h2 : c.zero.length ≠ n ∨ c.shown.length ≠ n
      · rw [if_pos h2] at e; cases e
      · rw [if_neg h2] at e
        cases h3 : (c.zero.any (out 0 2) || c.shown.any (out (-1) 99)) with
        | true => rw [h3, if_pos rfl] at e; cases e
        | false =>
          rw [Bool.or_eq_false_iff, Bool.or_eq_false_iff] at h1
          rw [Bool.or_eq_false_iff] at h3
          have a1 := out_f.1 h1.1.1
          have a2 := out_f.1 h1.1.2
          have a3 := out_f.1 h1.2
          refine ⟨a1, a2, by omega, by omega, by omega, any_out h3.1, any_out h3.2, ?_⟩
          unfold nameE at h0
          cases hn : nmOk c.name with
          | true => rfl
          | false => rw [hn] at h0; simp at h0
  · rw [if_pos h0] at e; exact absurd e h0
theorem check_parts {b : Board} (h : (check b).2.2 = 0) : out 1 3 b.holds = false ∧ (failE (hourE b.holds) 0 4 b.hours).2 = 0 ∧ (failE (ctrE b.hours.length) 0 2 b.ctrs).2 = 0 := by
  unfold check at h
  cases h1 : out 1 3 b.holds with
  | true => rw [h1, if_pos rfl] at h; cases h
  | false =>
    rw [h1, if_neg (by simp)] at h
    by_cases h2 : (failE (hourE b.holds) 0 4 b.hours).2 = 0
    · rw [if_neg (by simp [h2])] at h
      by_cases h3 : (failE (ctrE b.hours.length) 0 2 b.ctrs).2 = 0
      · exact ⟨rfl, h2, h3⟩
      · rw [if_pos h3] at h; exact absurd h h3
    · rw [if_pos h2] at h; exact absurd h h2
theorem check_ok {b : Board} (h : (check b).2.2 = 0) : b.Ok := by
  obtain ⟨h1, h2, h3⟩ := check_parts h
  obtain ⟨l1, e1⟩ := failE_zero h2
  obtain ⟨l2, e2⟩ := failE_zero h3
  refine ⟨out_f.1 h1, by omega, by omega, fun x hx => ?_, fun x hx => ?_⟩
  · obtain ⟨i, hi, rfl⟩ := List.getElem_of_mem hx
    exact hourE_zero (e1 i hi)
  · obtain ⟨i, hi, rfl⟩ := List.getElem_of_mem hx
    exact ctrE_zero (e2 i hi)
/-! ### Ways -/
theorem wayR_mem {c : Ctr} {a : Nat} {s k : Int} {z : Bool} {w : Way} (h : w ∈ wayR c a s z k) : w.counts = k ∧ 0 ≤ w.shows ∧ w.shows < 100 ∧ w.zero = z := by
  unfold wayR at h
  split at h
  · rw [List.mem_singleton] at h
    subst h
    exact ⟨rfl, Int.emod_nonneg _ (by decide), Int.emod_lt_of_pos _ (by decide), rfl⟩
  · cases h
theorem steps_ways {c : Ctr} {h : Hour} {a : Nat} {s load : Int} (hl : h.lo ≤ load ∧ load ≤ h.hi) (h0 : 0 ≤ h.lo) {w : Way} : w ∈ stepsC c a s load ↔ w ∈ waysC c h a s ∧ 0 - c.skip ≤ w.counts - load ∧ w.counts - load ≤ c.twice := by
  have key : ∀ z, w ∈ stepsZ c a s load z ↔ w ∈ waysZ c h a s z ∧ 0 - c.skip ≤ w.counts - load ∧ w.counts - load ≤ c.twice := by
    intro z
    unfold stepsZ waysZ
    cases canZ c a z with
    | false => simp
    | true =>
      simp only [if_true, List.mem_flatMap]
      constructor
      · rintro ⟨e, he, hw⟩
        have he := span_mem.1 he
        split at hw
        · have hc := (wayR_mem hw).1
          exact ⟨⟨load + e, span_mem.2 (by omega), hw⟩, by omega, by omega⟩
        · cases hw
      · rintro ⟨⟨k, hk, hw⟩, h1, h2⟩
        have hk := span_mem.1 hk
        have hc := (wayR_mem hw).1
        refine ⟨k - load, span_mem.2 (by omega), ?_⟩
        rw [if_pos (by omega), show load + (k - load) = k by omega]
        exact hw
  unfold stepsC waysC
  rw [List.mem_append, List.mem_append, key, key]
  constructor
  · rintro (h | h)
    · exact ⟨.inl h.1, h.2⟩
    · exact ⟨.inr h.1, h.2⟩
  · rintro ⟨h | h, h2⟩
    · exact .inl ⟨h, h2⟩
    · exact .inr ⟨h, h2⟩
theorem ways_in {c : Ctr} {h : Hour} {a : Nat} {s : Int} (hc : 0 ≤ c.twice ∧ c.twice ≤ 3) (hh : 0 ≤ h.lo ∧ h.hi ≤ 40) {w : Way} (hw : w ∈ waysC c h a s) : 0 ≤ w.counts ∧ w.counts ≤ 43 ∧ 0 ≤ w.shows ∧ w.shows < 100 := by
  have key : ∀ z, w ∈ waysZ c h a s z → 0 ≤ w.counts ∧ w.counts ≤ 43 ∧ 0 ≤ w.shows ∧ w.shows < 100 := by
    intro z hz
    unfold waysZ at hz
    split at hz
    · obtain ⟨k, hk, hw⟩ := List.mem_flatMap.1 hz
      have hk := span_mem.1 hk
      have := wayR_mem hw
      omega
    · cases hz
  unfold waysC at hw
  rcases List.mem_append.1 hw with h | h
  · exact key _ h
  · exact key _ h
theorem steps_in {c : Ctr} {a : Nat} {s load : Int} {w : Way} (hw : w ∈ stepsC c a s load) : 0 ≤ w.shows ∧ w.shows < 100 := by
  have key : ∀ z, w ∈ stepsZ c a s load z → 0 ≤ w.shows ∧ w.shows < 100 := by
    intro z hz
    unfold stepsZ at hz
    split at hz
    · obtain ⟨k, hk, hw⟩ := List.mem_flatMap.1 hz
      split at hw
      · have := wayR_mem hw; omega
      · cases hw
    · cases hz
  unfold stepsC at hw
  rcases List.mem_append.1 hw with h | h
  · exact key _ h
  · exact key _ h
theorem fare_in {c : Ctr} {n : Nat} (hc : c.Ok n) {l : List Int} {q : Quest} : ∀ (k : Nat) {x : Int × Bool}, x ∈ fareTo c l q k → 0 ≤ x.1 ∧ x.1 < 100
  | 0, x, h => by
    simp only [fareTo, List.mem_singleton] at h
    subst h
    have := hc.start
    exact ⟨this.1, by show c.start < 100; omega⟩
  | k + 1, x, h => by
    simp only [fareTo, List.mem_flatMap, List.mem_map] at h
    obtain ⟨y, _, w, hw, rfl⟩ := h
    exact steps_in hw
/-- A counter's state, as one number. -/
def enc (x : Int × Bool) : Int := x.1 + if x.2 then 100 else 0
theorem enc_mod {x : Int × Bool} (h : 0 ≤ x.1 ∧ x.1 < 100) : enc x % 100 = x.1 := by
  unfold enc; cases x.2 <;> simp <;> omega
theorem enc_ge {x : Int × Bool} (h : 0 ≤ x.1 ∧ x.1 < 100) : 100 ≤ enc x ↔ x.2 = true := by
  unfold enc; cases x.2 <;> simp <;> omega
end Go.Rt.Ch
/- The walking engine, part 10: bits of numbers, numbers within arrays of a struct, maps by structs of numbers. No conditions. -/
set_option linter.unusedSimpArgs false
set_option linter.unusedVariables false
namespace Go.Rt
open Go.RowKit
section
variable {r : Option Nat} {P : Program} {ops : Array Oper} {Q : Exit → Act → World → Prop} {rest : List Oper} {n : Nat} {ρ : Nat → Value} {ds : List Deferred} {d : Option Tmp} {ty : TypeId} {p : String} {e : Array Edge} {g : Option (Nat × Bool)} {w w0 : World} {L : List (Nat × Obj)}
/-! ### Bits -/
theorem ofI (a : Nat) (ha : a < 9223372036854775808) : (BitVec.ofInt 64 (a : Int)).toNat = a := by
  rw [BitVec.ofInt_natCast, BitVec.toNat_ofNat]; exact Nat.mod_eq_of_lt (by omega)
theorem y_and {t t2 : TypeId} {u v : Operand} {a b : Int} {x y : Nat} (ho : okO n u = true) (ho1 : okO n v = true) (hx : ev ρ u = .int .i64 a) (hy : ev ρ v = .int .i64 b) (ha : a = (x : Int)) (hb : b = (y : Int)) (h1 : x < 9223372036854775808) (h2 : y < 9223372036854775808) :
    Yd P (A n ρ ds) ⟨d, .binOp .and t u v t2, ty, p, e, g⟩ w (.int .i64 ((x &&& y : Nat) : Int)) := by
  subst ha hb
  refine y_bin ho ho1 hx hy fun w => ?_
  have hle : x &&& y < 2 ^ 63 := Nat.and_lt_two_pow _ (by omega)
  have : Go.bits .and .i64 (x : Int) (y : Int) = ((x &&& y : Nat) : Int) := by
    show IntKind.i64.wrap ((BitVec.ofInt 64 (x : Int) &&& BitVec.ofInt 64 (y : Int)).toNat : Int) = _
    rw [BitVec.toNat_and, ofI x h1, ofI y h2, wrap_in (by omega) (by omega)]
  rw [binOp_and, intBits_and, this]; rfl
/-- What is in x and not in y, of small numbers. -/
def bitDiff (x y : Nat) : Nat := (BitVec.ofNat 64 x &&& ~~~(BitVec.ofNat 64 y)).toNat
theorem y_shr {t t2 : TypeId} {u v : Operand} {a b : Int} {x y : Nat} (ho : okO n u = true) (ho1 : okO n v = true) (hx : ev ρ u = .int .i64 a) (hy : ev ρ v = .int .i64 b) (ha : a = (x : Int)) (hb : b = (y : Int)) (h2 : y ≤ 60) :
    Yd P (A n ρ ds) ⟨d, .binOp .shr t u v t2, ty, p, e, g⟩ w (.int .i64 ((x >>> y : Nat) : Int)) := by
  subst ha hb
  refine y_bin ho ho1 hx hy fun w => ?_
  rw [binOp_shr]
  unfold Op.shift
  have hb : IntKind.i64.bits = 64 := rfl
  rw [if_neg (by omega)]
  simp only [Int.toNat_natCast, hb, Nat.min_eq_left (show y ≤ 64 by omega), Sem.run_pure]
  congr 2
  rw [Int.fdiv_eq_ediv_of_nonneg _ (by exact_mod_cast Nat.zero_le _), Nat.shiftRight_eq_div_pow]
  norm_cast
theorem y_shl {t t2 : TypeId} {u v : Operand} {a b : Int} {x y : Nat} (ho : okO n u = true) (ho1 : okO n v = true) (hx : ev ρ u = .int .i64 a) (hy : ev ρ v = .int .i64 b) (ha : a = (x : Int)) (hb : b = (y : Int)) (h1 : x ≤ 1000) (h2 : y ≤ 40) :
    Yd P (A n ρ ds) ⟨d, .binOp .shl t u v t2, ty, p, e, g⟩ w (.int .i64 ((x <<< y : Nat) : Int)) := by
  subst ha hb
  refine y_bin ho ho1 hx hy fun w => ?_
  rw [binOp_shl]
  unfold Op.shift
  have hb : IntKind.i64.bits = 64 := rfl
  rw [if_neg (by omega)]
  simp only [Int.toNat_natCast, hb, Nat.min_eq_left (show y ≤ 64 by omega), Sem.run_pure]
  have h3 : x * 2 ^ y ≤ 1000 * 2 ^ 40 := Nat.mul_le_mul h1 (Nat.pow_le_pow_right (by omega) h2)
  have h4 : (x : Int) * 2 ^ y = ((x * 2 ^ y : Nat) : Int) := by push_cast; rfl
  rw [h4, wrap_in (by omega) (by omega), Nat.shiftLeft_eq]
/-! ### Numbers within -/
/-! ### Structs of numbers and arrays of numbers -/
theorem run_part_flat {t : TypeId} {k o : Nat} (ha : ∀ w, (isAgg t).run P w = .ok true w) (hs : ∀ w, (sizeOf t).run P w = .ok k w) {l : List Int} : (part t (iv l).toArray o).run P w = .ok (ia ((l.drop o).take k)) w := by
  unfold part
  simp only [Sem.run_bind, ha, Result.andThen_ok, if_true, hs, Sem.run_pure]
  congr 2
  simp [iv, List.map_drop, List.map_take, List.extract_eq_take_drop]
/-- A field that is a number, or an array of numbers. -/
def FF (P : Program) (f : Field) (k : Nat) : Prop := f.name ≠ "_" ∧ ((P.underlying f.type = some (.int .i64) ∧ k = 1) ∨ (flatInts P f.type k = true ∧ (∀ w, (isAgg f.type).run P w = .ok true w) ∧ ∀ w, (sizeOf f.type).run P w = .ok k w))
theorem eqFields_flat (dd : Nat) (l m : List Int) : ∀ (fs : List (Field × Nat)), (∀ q ∈ fs, FF P q.1 q.2 ∧ q.1.offset + q.2 ≤ l.length ∧ q.1.offset + q.2 ≤ m.length) →
    (Op.eqFields (dd + 2) (iv l).toArray (iv m).toArray (fs.map Prod.fst)).run P w = .ok (fs.all fun q => decide ((l.drop q.1.offset).take q.2 = (m.drop q.1.offset).take q.2)) w
  | [], _ => by simp [Op.eqFields]
  | q :: fs, hh => by
    obtain ⟨⟨hn, hff⟩, h1, h2⟩ := hh q (.head _)
    have ih := eqFields_flat dd l m fs fun j hj => hh j (.tail _ hj)
    have key : ∃ u v : Value, (part q.1.type (iv l).toArray q.1.offset).run P w = .ok u w ∧ (part q.1.type (iv m).toArray q.1.offset).run P w = .ok v w ∧ (Op.equalIn (dd + 2) q.1.type u v).run P w = .ok (decide ((l.drop q.1.offset).take q.2 = (m.drop q.1.offset).take q.2)) w := by
      rcases hff with ⟨hu, hk⟩ | ⟨hf, ha, hs⟩
      · have e1 : (iv l).toArray[q.1.offset]? = some (.int .i64 (l.getD q.1.offset 0)) := by simp [show q.1.offset < l.length by omega]
        have e2 : (iv m).toArray[q.1.offset]? = some (.int .i64 (m.getD q.1.offset 0)) := by simp [show q.1.offset < m.length by omega]
        refine ⟨_, _, run_part_int hu e1, run_part_int hu e2, ?_⟩
        rw [run_equalIn_int w (dd + 1) q.1.type .i64 .i64 _ _ hu, hk]
        congr 1
        rw [List.drop_eq_getElem_cons (show q.1.offset < l.length by omega), List.drop_eq_getElem_cons (show q.1.offset < m.length by omega)]
        simp only [List.take_succ_cons, List.take_zero, List.cons.injEq, and_true]
        have g1 : l.getD q.1.offset 0 = l[q.1.offset]'(by omega) := by simp [List.getD, show q.1.offset < l.length by omega]
        have g2 : m.getD q.1.offset 0 = m[q.1.offset]'(by omega) := by simp [List.getD, show q.1.offset < m.length by omega]
        rw [g1, g2]
        rfl
      · refine ⟨_, _, run_part_flat ha hs, run_part_flat ha hs, ?_⟩
        have hl1 : ((l.drop q.1.offset).take q.2).length = q.2 := by simp; omega
        have hl2 : ((m.drop q.1.offset).take q.2).length = q.2 := by simp; omega
        exact run_equal_flat dd (by rw [hl1]; exact hf) (by rw [hl1, hl2])
    obtain ⟨u, v, k1, k2, k3⟩ := key
    simp only [List.map_cons, Op.eqFields, hn, ne_eq, not_false_eq_true, if_true, Sem.run_bind, k1, k2, k3, Result.andThen_ok]
    simp only [List.all_cons]
    by_cases hv : (l.drop q.1.offset).take q.2 = (m.drop q.1.offset).take q.2
    · rw [decide_eq_true hv]
      simp only [Bool.not_true, Bool.false_eq_true, if_false, Bool.true_and]
      exact ih
    · rw [decide_eq_false hv]
      simp only [Bool.not_false, if_true, Sem.run_pure, Bool.false_and]
/-- What a key's type has to be like: n numbers. -/
structure KeyTy (P : Program) (t : TypeId) (n : Nat) : Prop where
  chk : ∀ (em : Bool) (l : List Int) (w : World), l.length = n → (Instr.checkKey em 10000 t (ia l)).run P w = .ok () w
  eq : ∀ (l m : List Int) (w : World), l.length = n → m.length = n → (Op.equal t (ia l) (ia m)).run P w = .ok (decide (l = m)) w
  desc : ∃ u, P.underlying t = some u ∧ (∀ (l : List Int) (e : MapEntry) (es : List MapEntry), Instr.findNow u (ia l) (e :: es) 0 = none) ∧ ∀ (l : List Int) (w : World), (Instr.findKey t (ia l) []).run P w = .ok none w
theorem keyTy_struct {t : TypeId} {fs : Array Field} {k : Nat} (fq : List (Field × Nat)) (hu : P.underlying t = some (.struct fs)) (hp : P.stoodInHeld t = false) (hfs : fs.toList = fq.map Prod.fst) (hff : ∀ q ∈ fq, FF P q.1 q.2 ∧ q.1.offset + q.2 ≤ k)
    (hck : ∀ q ∈ fq, P.underlying q.1.type = some (.int .i64) ∨ ∃ el, P.underlying q.1.type = some (.array q.2 el) ∧ P.underlying el = some (.int .i64) ∧ ∀ w, (sizeOf el).run P w = .ok 1 w)
    (hcov : ∀ l m : List Int, l.length = k → m.length = k → (fq.all fun q => decide ((l.drop q.1.offset).take q.2 = (m.drop q.1.offset).take q.2)) = decide (l = m)) : KeyTy P t k := by
  refine ⟨fun em l w hl => ?_, fun l m w hl hm => ?_, ⟨_, hu, fun l e es => ?_, fun l w => ?_⟩⟩
  · have one : ∀ q ∈ fq, ∀ w, q.1.name ≠ "_" ∧ ∃ v, (part q.1.type (iv l).toArray q.1.offset).run P w = .ok v w ∧ (Instr.checkKey em 9999 q.1.type v).run P w = .ok () w := by
      intro q hq w
      obtain ⟨⟨hn, hf⟩, ho⟩ := hff q hq
      refine ⟨hn, ?_⟩
      rcases hf with ⟨hi, hk1⟩ | ⟨hf, ha, hs⟩
      · have e1 : (iv l).toArray[q.1.offset]? = some (.int .i64 (l.getD q.1.offset 0)) := by simp [show q.1.offset < l.length by omega]
        refine ⟨_, run_part_int hi e1, ?_⟩
        unfold Instr.checkKey
        simp [Sem.run_bind, run_underlying hi, Result.andThen]
      · refine ⟨_, run_part_flat ha hs, ?_⟩
        rcases hck q hq with hi | ⟨el, h1, h2, h3⟩
        · exfalso
          unfold flatInts at hf
          rw [hi] at hf
          cases hf
        · exact run_checkKey (dd := 9997) h1 (by simp; omega) h2 h3
    rw [show (10000 : Nat) = 9999 + 1 from rfl, Instr.checkKey]
    unfold ia
    simp only [Sem.run_bind, run_underlying hu, Result.andThen_ok]
    rw [← Array.forIn_toList, hfs]
    have : ∀ (q : List (Field × Nat)), (∀ x ∈ q, x ∈ fq) → ∀ w, (forIn (q.map Prod.fst) PUnit.unit fun f _ => (do
        if f.name ≠ "_" then Instr.checkKey em 9999 f.type (← part f.type (iv l).toArray f.offset)
        pure (ForInStep.yield PUnit.unit) : Sem (ForInStep PUnit)) : Sem PUnit).run P w = .ok PUnit.unit w := by
      intro q
      induction q with
      | nil => intro _ w; simp
      | cons x q ih =>
        intro hx w
        obtain ⟨hn, v, h1, h2⟩ := one x (hx x (.head _)) w
        simp only [List.map_cons, List.forIn_cons, Sem.run_bind, hn, ne_eq, not_false_eq_true, if_true, h1, h2, Result.andThen_ok, Sem.run_pure]
        exact ih (fun y hy => hx y (.tail _ hy)) w
    have h := this fq (fun _ h => h) w
    exact congrArg (fun r => Result.andThen r fun a w' => Sem.run P (pure ()) w') h
  · have hfo : P.fieldsOf t = fs := by simp [Program.fieldsOf, hu]
    show (Op.equalIn ((9997 + 2) + 1) t (.agg (iv l).toArray) (.agg (iv m).toArray)).run P w = _
    rw [run_equalIn_struct w (9997 + 2) t _ _ (by rw [hfo]; exact hu) hp, hfo, hfs, eqFields_flat 9997 l m fq (fun q hq => ⟨(hff q hq).1, by have := (hff q hq).2; omega, by have := (hff q hq).2; omega⟩), hcov l m hl hm]
  · simp [Instr.findNow, Instr.sameNow]
  · simp [Instr.findKey, Sem.run_bind, run_underlying hu, Result.andThen, Instr.findNow]
end
end Go.Rt
/- The walking engine, part 11: one number copied into a list at a place. No conditions. -/
set_option linter.unusedSimpArgs false
set_option linter.unusedVariables false
namespace Go.Rt
open Go.RowKit
variable {r : Option Nat} {P : Program} {ops : Array Oper} {Q : Exit → Act → World → Prop} {rest : List Oper} {n : Nat} {ρ : Nat → Value} {ds : List Deferred} {ty : TypeId} {p : String} {e : Array Edge} {g : Option (Nat × Bool)} {w w0 : World} {L : List (Nat × Obj)}
theorem w_copy1 {d : Nat} {t el : TypeId} {i i2 : Nat} {x y : Operand} {b b2 j c c2 : Nat} {tb tb2 : TypeId} {l : List Int} {z : Int}
    (hw : Want ops (A n ρ ds) ⟨some d, .call ⟨.builtin .copy, #[x, y], #[t, t]⟩, ty, p, e, g⟩)
    (hU : P.underlying t = some (.slice el)) (hsz : ∀ w, (sizeOf el).run P w = .ok 1 w) (ho : okO n x = true) (ho1 : okO n y = true)
    (hx : ev ρ x = .slice (if c = j then some ⟨b, 0, none⟩ else (some (⟨b, 0, none⟩ : Addr)).map (·.add (j * 1))) (c - j) (c - j)) (hy : ev ρ y = .slice (some ⟨b2, 0, none⟩) 1 c2)
    (hst : St w0 w L) (hi : L[i]? = some (b, blk tb (iv l))) (hi2 : L[i2]? = some (b2, blk tb2 [.int .i64 z])) (hj : j < c) (hc : l.length = c)
    (hk : ∀ w', St w0 w' (L.set i (b, blk tb (iv (l.set j z)))) → WL r P ops Q rest (A n (upd ρ d (.int .i64 1)) ds) w') :
    WL r P ops Q (⟨some d, .call ⟨.builtin .copy, #[x, y], #[t, t]⟩, ty, p, e, g⟩ :: rest) (A n ρ ds) w := by
  have hx2 : ev ρ x = .slice (some ⟨b, j, none⟩) (c - j) (c - j) := by
    rw [hx, if_neg (by omega)]
    by_cases h0 : j = 0
    · subst h0; rfl
    · simp [Addr.add, h0]
  have hm : Nat.min 1 (c - j) = 1 := Nat.min_eq_left (by omega)
  refine w_copy (xs := [.int .i64 z]) (vs := [.int .i64 z]) (k := 1) hw hU hsz ho ho1 hx2 hy hst hi (sl_own (i := i2) (rows := [[.int .i64 z]]) hi2 (by simp) rfl) rfl hm.symm rfl (by simp [Value.oneCell']) (by simp; omega) (fun w' hst' => hk w' ?_)
  have : setMany (iv l) j [.int .i64 z] = iv (l.set j z) := by simp [setMany, iv, List.map_set]
  rwa [this] at hst'
theorem shr_lt {x y k : Nat} (h : x < k) : x >>> y < k := Nat.lt_of_le_of_lt (Nat.shiftRight_le _ _) h
end Go.Rt
/- The walking engine, part 12: ranges over functions that keep something of their own. No conditions. -/
set_option linter.unusedSimpArgs false
set_option linter.unusedVariables false
namespace Go.Rt
open Go.RowKit
variable {r : Option Nat} {P : Program} {ops : Array Oper} {Q : Exit → Act → World → Prop} {rest : List Oper} {n : Nat} {ρ : Nat → Value} {ds : List Deferred} {w w0 : World} {L : List (Nat × Obj)}
/-- As Iter, for consumers of a kind. -/
def IterC (P : Program) (k : FuncId) (first captured : List Value) (xs : List Value) (w0 : World) (F : List (Nat × Obj)) (C : (Nat → List (Nat × Obj) → Prop) → (List (Nat × Obj) → Prop) → Prop) : Prop :=
  ∀ (J : Nat → List (Nat × Obj) → Prop) (Js : List (Nat × Obj) → Prop), C J Js → ∀ (yv : Value) (B X : List (Nat × Obj)) (w : World), (∃ f a b, yv = .func f a b) →
    (∀ i (hi : i < xs.length) B X w, J i B → St w0 w (X ++ (B ++ F)) → FCon P yv [xs[i]] w fun v w' => ∃ B', St w0 w' (X ++ (B' ++ F)) ∧ (v = .bool true ∧ J (i + 1) B' ∨ v = .bool false ∧ Js B')) →
    J 0 B → St w0 w (X ++ (B ++ F)) →
    Con P k (first ++ ([yv] ++ captured)) w fun _ w' => ∃ B', St w0 w' (X ++ (B' ++ F)) ∧ (J xs.length B' ∨ Js B')
/-- Consumers that have a memo in their keeping. -/
def ClsM (K : List (Nat × Obj) → Prop) (J : Nat → List (Nat × Obj) → Prop) (Js : List (Nat × Obj) → Prop) : Prop :=
  ∃ (J0 : Nat → List (Nat × Obj) → Prop) (Js0 : List (Nat × Obj) → Prop), (∀ i Bx, J i Bx ↔ ∃ B M, Bx = B ++ M ∧ K M ∧ J0 i B) ∧ ∀ Bx, Js Bx ↔ ∃ B M, Bx = B ++ M ∧ K M ∧ Js0 B
theorem clsM_range {K : List (Nat × Obj) → Prop} {J : Nat → List (Nat × Obj) → Prop} {Js : Code → List (Nat × Obj) → Prop} (J0 : Nat → List (Nat × Obj) → Prop) (Js0 : Code → List (Nat × Obj) → Prop) (h1 : ∀ i Bx, J i Bx ↔ ∃ B M, Bx = B ++ M ∧ K M ∧ J0 i B) (h2 : ∀ c Bx, Js c Bx ↔ ∃ B M, Bx = B ++ M ∧ K M ∧ Js0 c B) (a b : Nat × Obj) (cc : Code → Nat × Obj) :
    ClsM K (fun i Bx => ∃ B, Bx = a :: b :: B ∧ J i B) (fun Bx => ∃ B c, Bx = cc c :: b :: B ∧ Js c B) := by
  refine ⟨fun i B => ∃ B0, B = a :: b :: B0 ∧ J0 i B0, fun B => ∃ B0 c, B = cc c :: b :: B0 ∧ Js0 c B0, fun i Bx => ⟨?_, ?_⟩, fun Bx => ⟨?_, ?_⟩⟩
  · rintro ⟨B, rfl, hJ⟩
    obtain ⟨B0, M, rfl, hK, h⟩ := (h1 i B).1 hJ
    exact ⟨a :: b :: B0, M, rfl, hK, B0, rfl, h⟩
  · rintro ⟨B, M, rfl, hK, B0, rfl, h⟩
    exact ⟨B0 ++ M, rfl, (h1 i _).2 ⟨B0, M, rfl, hK, h⟩⟩
  · rintro ⟨B, c, rfl, hJ⟩
    obtain ⟨B0, M, rfl, hK, h⟩ := (h2 c B).1 hJ
    exact ⟨cc c :: b :: B0, M, rfl, hK, B0, c, rfl, h⟩
  · rintro ⟨B, M, rfl, hK, B0, c, rfl, h⟩
    exact ⟨B0 ++ M, c, rfl, (h2 c _).2 ⟨B0, M, rfl, hK, h⟩⟩
theorem st_in {P X B R : List (Nat × Obj)} (h : St w0 w (P ++ (X ++ (B ++ R)))) : St w0 w ((P ++ (X ++ B)) ++ R) := by simpa only [List.append_assoc] using h
theorem st_out {P X B R : List (Nat × Obj)} (h : St w0 w ((P ++ (X ++ B)) ++ R)) : St w0 w (P ++ (X ++ (B ++ R))) := by simpa only [List.append_assoc] using h
theorem w_rangeC {C : (Nat → List (Nat × Obj) → Prop) → (List (Nat × Obj) → Prop) → Prop} {g : Operand} {pt : Nat} {assign body : Code} {k : FuncId} {first captured : Array Value} {xs : List Value} {F : List (Nat × Obj)} (B : List (Nat × Obj)) (J : Nat → List (Nat × Obj) → Prop) (Js : Code → List (Nat × Obj) → Prop)
    (hog : okO n g = true) (hg : ev ρ g = .func (.func k) first captured) (hpt : Nat.blt pt n = true) (hC : CF P k) (hit : IterC P k first.toList captured.toList xs w0 F C) (hcls : ∀ (a b : Nat × Obj) (cc : Code → Nat × Obj), C (fun i Bx => ∃ B, Bx = a :: b :: B ∧ J i B) (fun Bx => ∃ B c, Bx = cc c :: b :: B ∧ Js c B)) (hst : St w0 w L) (hperm : L.Perm (B ++ F)) (h0 : J 0 B)
    (round : ∀ l i (hi : i < xs.length) B X X' w, J i B → St w0 w (B ++ (X ++ F)) → ∀ K : Act → World → Prop,
      (∀ a w Y, St w0 w (Y ++ (X ++ F)) → (∀ w', St w0 w' (Y ++ (X' ++ F)) → WC (some l) P body (Rd w0 J Js i (X' ++ F)) a w') → K a w) →
      WC (some l) P assign (Exit.then K fun _ _ _ => False) (A n (upd ρ pt xs[i]) []) w)
    (hend : ∀ bd B w, J xs.length B → St w0 w ((bd, .deferred (some [])) :: (B ++ F)) → Q .normal (A n ρ (mk bd :: ds)) w)
    (hjump : ∀ bd c B w, Js c B → St w0 w ((bd, .deferred (some [])) :: (B ++ F)) → WC none P c Q (A n ρ (mk bd :: ds)) w) :
    WC none P (.rangeFunc g #[pt] assign body) Q (A n ρ ds) w := by
  refine wpIn_rangeFunc (F := FW none) fun fn _ => ?_
  have henter := run_enterLoop_outer (P := P) (w := w) fn (A n ρ ds).tmps #[pt] assign body
  let bd := w.heap.size
  let l := w.heap.size + 1
  let rc (s : LoopState) (pend : Option Code) : Obj := .loop { state := s, pending := pend, fn := fn, tmps := fa n ρ, params := #[pt], assign := assign, body := body, defers := bd }
  let w1 : World := (w.alloc (.deferred (some []))).alloc (rc .ready none)
  have hst1 : St w0 w1 ((l, rc .ready none) :: (bd, .deferred (some [])) :: L) := by
    have h1 := (hst.alloc (.deferred (some []))).alloc (rc .ready none)
    rw [World.size_alloc] at h1
    exact h1
  refine ⟨l, [mk bd], w1, { target := .fn (.func k) captured, args := first ++ #[.func (.yield l) #[] #[]] }, w1, k, first ++ #[.func (.yield l) #[] #[]] ++ captured, w1, henter, ?_, fun _ _ => trivial, ?_, fun h => (by simp at h), ?_⟩
  · have e1 : (#[Operand.const (Value.func (Fn.yield l) #[] #[])].map (A n ρ ds).eval) = #[Value.func (Fn.yield l) #[] #[]] := by simp [Act.eval]
    simp only [resolve, rangeCall, ev_eq hog, hg, Deferred.ofValue, e1]
    rfl
  · exact hC (first ++ #[Value.func (Fn.yield l) #[] #[]] ++ captured) w1
  · have hperm1 : ((l, rc .ready none) :: (bd, .deferred (some [])) :: L).Perm ([] ++ (((l, rc .ready none) :: (bd, .deferred (some [])) :: B) ++ F)) := (List.Perm.cons _ (List.Perm.cons _ hperm))
    have hI := hit (fun i Bx => ∃ B, Bx = (l, rc .ready none) :: (bd, .deferred (some [])) :: B ∧ J i B) (fun Bx => ∃ B c, Bx = (l, rc .done (some c)) :: (bd, .deferred (some [])) :: B ∧ Js c B) (hcls (l, rc .ready none) (bd, .deferred (some [])) (fun c => (l, rc .done (some c)))) (.func (.yield l) #[] #[])
      ((l, rc .ready none) :: (bd, .deferred (some [])) :: B) [] w1 ⟨_, _, _, rfl⟩ ?_ ⟨B, rfl, h0⟩ (hst1.perm hperm1)
    · have hargs : (first ++ #[Value.func (Fn.yield l) #[] #[]] ++ captured) = (first.toList ++ ([Value.func (Fn.yield l) #[] #[]] ++ captured.toList)).toArray := by
        apply Array.ext'; simp
      rw [hargs]
      refine CallsIn.mono hI ?_
      rintro e w' ⟨v, rfl, B', hst', hB⟩
      rcases hB with ⟨B, rfl, hB⟩ | ⟨B, c, rfl, hB⟩
      · have hg' := hst'.get (i := 0) rfl
        refine ⟨none, _, run_endLoop hg' (by simp), ?_⟩
        exact hend bd B _ hB (hst'.putObj (i := 0) rfl _).tail
      · have hg' := hst'.get (i := 0) rfl
        refine ⟨some c, _, run_endLoop hg' (by simp), ?_⟩
        exact hjump bd c B _ hB (hst'.putObj (i := 0) rfl _).tail
    · rintro i hi Bx X w2 ⟨B, rfl, hB⟩ hst2
      have hp : (X ++ (((l, rc .ready none) :: (bd, .deferred (some [])) :: B) ++ F)).Perm ((l, rc .ready none) :: (bd, .deferred (some [])) :: (X ++ (B ++ F))) := perm_mid X [(l, rc .ready none), (bd, .deferred (some []))] (B ++ F)
      have hst3 := hst2.perm hp
      have hg' := hst3.get (i := 0) rfl
      refine .inr ⟨l, fn, fa n (upd ρ pt xs[i]), assign, body, rfl, ?_, ?_⟩
      · rw [run_yield hg' rfl]
        simp [rc, fa_put]
      · refine roundIn_of_wpIn (F := FW none) trivial ?_
        have hp2 : ((l, rc .ready none) :: (bd, .deferred (some [])) :: (X ++ (B ++ F))).Perm (B ++ (((l, rc .ready none) :: (bd, .deferred (some [])) :: X) ++ F)) :=
          perm_mid ((l, rc .ready none) :: (bd, .deferred (some [])) :: X) B F
        refine round l i hi B ((l, rc .ready none) :: (bd, .deferred (some [])) :: X) ((l, rc .busy none) :: (bd, .deferred (some [])) :: X) w2 hB (hst3.perm hp2) _ ?_
        intro a w3 Y hst4 hbody
        have hp3 : (Y ++ (((l, rc .ready none) :: (bd, .deferred (some [])) :: X) ++ F)).Perm ((l, rc .ready none) :: (Y ++ (((bd, .deferred (some [])) :: X) ++ F))) := perm_mid Y [(l, rc .ready none)] _
        have hst5 := hst4.perm hp3
        have hg5 := hst5.get (i := 0) rfl
        refine ⟨_, run_beginRound hg5 rfl, ?_⟩
        have hst6 := hst5.putObj (i := 0) rfl (rc .busy none)
        have hp4 : ((l, rc .busy none) :: (Y ++ (((bd, .deferred (some [])) :: X) ++ F))).Perm (Y ++ (((l, rc .busy none) :: (bd, .deferred (some [])) :: X) ++ F)) := (perm_mid Y [(l, rc .busy none)] _).symm
        refine w_mono (hbody _ (hst6.perm hp4)) ?_
        have back : ∀ (B' : List (Nat × Obj)) (w : World) (s : LoopState) (pend : Option Code), St w0 w (B' ++ (((l, rc .busy none) :: (bd, .deferred (some [])) :: X) ++ F)) → w.heap[l]? = some (rc .busy none) ∧
            St w0 (w.putObj l (rc s pend)) (X ++ (((l, rc s pend) :: (bd, .deferred (some [])) :: B') ++ F)) := by
          intro B' w s pend h
          have h1 := h.perm (perm_mid B' [(l, rc .busy none)] (((bd, .deferred (some [])) :: X) ++ F))
          refine ⟨h1.get (i := 0) rfl, ?_⟩
          have h2 := h1.putObj (i := 0) rfl (rc s pend)
          refine h2.perm ?_
          show ((l, rc s pend) :: (B' ++ (((bd, .deferred (some [])) :: X) ++ F))).Perm _
          refine (List.Perm.cons _ (perm_mid B' [(bd, .deferred (some []))] (X ++ F))).trans ?_
          refine (List.Perm.cons _ (List.Perm.cons _ (perm_mid B' X F))).trans ?_
          exact (perm_mid X [(l, rc s pend), (bd, .deferred (some []))] (B' ++ F)).symm
        intro e a' w' hq
        cases e with
        | normal =>
          obtain ⟨B', hs, hJ⟩ := hq
          obtain ⟨hb1, hb2⟩ := back B' w' .ready none hs
          exact ⟨_, _, run_endRound none hb1, _, rfl, _, hb2, .inl ⟨rfl, B', rfl, hJ⟩⟩
        | ret =>
          obtain ⟨B', hs, hJ⟩ := hq
          obtain ⟨hb1, hb2⟩ := back B' w' .done (some .ret) hs
          exact ⟨_, _, run_endRound (some .ret) hb1, _, rfl, _, hb2, .inr ⟨rfl, B', _, rfl, hJ⟩⟩
        | exit id =>
          obtain ⟨B', hs, hJ⟩ := hq
          obtain ⟨hb1, hb2⟩ := back B' w' .done (some (.exit id)) hs
          exact ⟨_, _, run_endRound (some (.exit id)) hb1, _, rfl, _, hb2, .inr ⟨rfl, B', _, rfl, hJ⟩⟩
        | goto t => exact hq.elim
        | panic c => exact hq.elim
        | outgrown => exact hq.elim

end Go.Rt
/- The walking engine, part 13: whole quotients. Plain theorems over the kit's fenced calculus. No conditions. -/
set_option linter.unusedSimpArgs false
set_option linter.unusedVariables false
namespace Go.Rt
variable {r : Option Nat} {P : Program} {ops : Array Oper} {Q : Exit → Act → World → Prop} {rest : List Oper} {n : Nat} {ρ : Nat → Value} {ds : List Deferred} {w w0 : World} {d : Option Nat} {ty : TypeId} {p : String} {e : Array Edge} {g : Option (Nat × Bool)} {L : List (Nat × Obj)}
/-- A region that draws its order: more is known at first than what stays. -/
theorem w_drawD {id : Nat} {l : List Oper} {Q : Exit → Act → World → Prop} {C0 C : World → Prop} (late : List Nat) (ord : List (Nat × Nat)) (hm : P.follows .mixedOrders = true) (hB : drawOK l.toArray late ord = true) (hC : C0 w) (h0 : ∀ w, C0 w → C w)
    (hdrew : ∀ w, C0 w → C0 { w with drawn := w.drawn + 1 }) (h : ∀ w', C0 w' → DW r P l.toArray (fun a w => Q .normal a w) C ord (A n ρ ds) w') : WC r P (.region id l.toArray true) Q (A n ρ ds) w := by
  unfold drawOK at hB
  simp only [Bool.and_eq_true] at hB
  obtain ⟨⟨⟨h1, h2⟩, h3⟩, h4⟩ := hB
  have hst' := hdrew _ hC
  have hsz : ord.length = l.toArray.size := Nat.eq_of_beq_eq_true h3
  have := wAH_of_DW h1 h2 ord (Array.replicate l.toArray.size false) (A n ρ ds) _ (by simp) h4 (fun _ => h0 _ hst') (h _ hst')
  have hany := wAny_of_wAH _ _ _ _ this
  rw [hsz] at hany
  refine wpIn_mono (wpIn_region_any hm hany) ?_
  intro e a w hq
  cases e <;> first | exact hq | exact hq.elim
end Go.Rt
/- The walking engine, part 14: lookups that ask for the value alone. No conditions. -/
set_option linter.unusedSimpArgs false
set_option linter.unusedVariables false
namespace Go.Rt
open Go.RowKit
variable {r : Option Nat} {P : Program} {ops : Array Oper} {Q : Exit → Act → World → Prop} {rest : List Oper} {n : Nat} {ρ : Nat → Value} {ds : List Deferred} {d : Option Nat} {ty : TypeId} {p : String} {e : Array Edge} {g : Option (Nat × Bool)} {w w0 : World} {L : List (Nat × Obj)}
end Go.Rt
/- The walking engine, part 15: loops that hold ranges over functions: the marks pile up. No conditions. -/
set_option linter.unusedSimpArgs false
set_option linter.unusedVariables false
namespace Go.Rt
open Go.RowKit
variable {r : Option Nat} {P : Program} {ops : Array Oper} {Q : Exit → Act → World → Prop} {rest : List Oper} {n : Nat} {ρ : Nat → Value} {ds : List Deferred} {w w0 : World} {L : List (Nat × Obj)}
/-- Marks, and the blocks that they name. -/
def mks (bs : List Nat) : List Deferred := bs.map mk
def dfs (bs : List Nat) : List (Nat × Obj) := bs.map fun b => (b, .deferred (some []))
def NxD (n : Nat) (D S : List Nat) (ρ : Nat → Value) (I : Nat → List Value → List Nat → World → Prop) (k : Nat) (a : Act) (w : World) : Prop :=
  ∃ ρ' k' bs', a = A n ρ' (mks bs') ∧ Agree D ρ ρ' ∧ k' < k ∧ I k' (S.map ρ') bs' w
theorem NxD.intro {D S : List Nat} {I : Nat → List Value → List Nat → World → Prop} {k : Nat} {ρ' : Nat → Value} (bs' : List Nat) (k' : Nat) (hk : k' < k) (ha : Agree D ρ ρ') (hI : I k' (S.map ρ') bs' w) : NxD n D S ρ I k (A n ρ' (mks bs')) w :=
  ⟨ρ', k', bs', rfl, ha, hk, hI⟩
end Go.Rt
/- The walking engine, part 16: the check of one order of a region, over numbers as sets of bits. No conditions. -/
set_option linter.unusedSimpArgs false
set_option linter.unusedVariables false
namespace Go.Rt
open Go.RowKit
variable {r : Option Nat} {P : Program} {ops : Array Oper} {Q : Exit → Act → World → Prop} {rest : List Oper} {n : Nat} {ρ : Nat → Value} {ds : List Deferred} {w w0 : World} {L : List (Nat × Obj)}
def tb (m i : Nat) : Bool := Nat.beq (Nat.land (Nat.shiftRight m i) 1) 1
theorem tb_eq (m i : Nat) : tb m i = m.testBit i := by
  have h : Nat.land (Nat.shiftRight m i) 1 = (m >>> i) % 2 := by
    show (m >>> i) &&& 1 = _
    exact Nat.and_one_is_mod _
  have h2 : m.testBit i = decide ((m >>> i) % 2 = 1) := by rw [Nat.testBit_eq_decide_div_mod_eq, Nat.shiftRight_eq_div_pow]
  unfold tb
  rw [h, h2, Bool.eq_iff_iff, Nat.beq_eq, decide_eq_true_eq]
def orB (m i : Nat) : Nat := Nat.lor m (Nat.shiftLeft 1 i)
theorem tb_orB (m i j : Nat) : tb (orB m i) j = (tb m j || decide (i = j)) := by
  rw [tb_eq, tb_eq]
  show (m ||| (1 <<< i)).testBit j = _
  rw [Nat.testBit_or, Nat.shiftLeft_eq, Nat.one_mul, Nat.testBit_two_pow]
def maskOf : List Nat → Nat
  | [] => 0
  | x :: l => orB (maskOf l) x
theorem tb_mask (j : Nat) : ∀ l : List Nat, tb (maskOf l) j = l.contains j
  | [] => by simp [maskOf, tb_eq]
  | x :: l => by
    simp only [maskOf, tb_orB, tb_mask j l, List.contains_cons]
    rw [Bool.or_comm]
    congr 1
    rw [Bool.eq_iff_iff]; simp only [decide_eq_true_eq, beq_iff_eq, Nat.beq_eq]; exact eq_comm
def subN (a m : Nat) : Bool := Nat.beq (Nat.land a m) a
theorem sub_iff (a m : Nat) : subN a m = true ↔ ∀ j, tb a j = true → tb m j = true := by
  unfold subN
  rw [Nat.beq_eq]
  constructor
  · intro h j hj
    have h1 : (a &&& m).testBit j = a.testBit j := by rw [show a &&& m = a from h]
    rw [Nat.testBit_and] at h1
    rw [tb_eq] at hj ⊢
    rw [hj] at h1; simpa using h1
  · intro h
    show a &&& m = a
    apply Nat.eq_of_testBit_eq
    intro j
    rw [Nat.testBit_and]
    have := h j
    rw [tb_eq, tb_eq] at this
    cases ha : a.testBit j with
    | false => rfl
    | true => rw [this ha]; rfl
/-- What the check needs of an operation. -/
structure OpS where
  nd : Nat
  dst : Option Nat
  lk : Nat
def opS (ops : Array Oper) (o : Oper) : OpS := ⟨maskOf ((o.after.toList.filter (Region.binds .any)).map (·.on)), o.dst, maskOf (o.looksAt ops)⟩
def sumS (ops : Array Oper) : List OpS := ops.toList.map (opS ops)
def readyN : List OpS → Nat → Nat → List Nat
  | [], _, _ => []
  | x :: s, i, m => bif (!tb m i) && subN x.nd m then i :: readyN s (i + 1) m else readyN s (i + 1) m
def apartN (x y : OpS) : Bool :=
  (match x.dst with | some d => !tb y.lk d && y.dst != some d | none => true) && (match y.dst with | some d => !tb x.lk d | none => true)
def freeN (xi : OpS) (i m : Nat) : List OpS → Nat → Bool
  | [], _ => true
  | y :: s, j => (Nat.beq j i || tb m j || tb y.nd i || apartN xi y) && freeN xi i m s (j + 1)
def closeN (s : List OpS) (i : Nat) : Nat → Nat → Nat
  | 0, m => m
  | k + 1, m => closeN s i k ((readyN s 0 m).foldl (fun m j => bif Nat.beq j i then m else orB m j) m)
def memN (i : Nat) : List Nat → Bool
  | [] => false
  | j :: l => Nat.beq j i || memN i l
def onlyN (i : Nat) : List Nat → Bool
  | [j] => Nat.beq j i
  | _ => false
def drawN (s : List OpS) (n : Nat) (late : List Nat) : List (Nat × Nat) → Nat → Bool
  | [], m => match readyN s 0 m with | [] => true | _ => false
  | (i, t) :: rest, m =>
    (match t with
     | 0 => memN i (readyN s 0 m) && (match s[i]? with | some x => freeN x i m s 0 | none => false) && !memN i late
     | 1 => memN i (readyN s 0 m) && (match s[i]? with | some x => freeN x i m s 0 | none => false) && !memN i late &&
        (let c := closeN s i n m; ((readyN s 0 c).all fun j => Nat.beq j i) && !(late.any fun q => tb c q) && !tb c i && subN m c)
     | 2 => onlyN i (readyN s 0 m) && !memN i late
     | _ => onlyN i (readyN s 0 m) && memN i late) && drawN s n late rest (orB m i)
def drawOKN (ops : Array Oper) (late : List Nat) (ord : List (Nat × Nat)) : Bool :=
  Region.noSelect ops && noDefer ops && Nat.beq ord.length ops.size && drawN (sumS ops) ops.size late ord 0
/-- A list of Bools as a number. -/
def Rep (ops : Array Oper) (l : Array Bool) (m : Nat) : Prop := l.size = ops.size ∧ ∀ j, l.getD j false = tb m j
theorem memN_eq (i : Nat) : ∀ l : List Nat, memN i l = l.contains i
  | [] => rfl
  | j :: l => by
    simp only [memN, memN_eq i l, List.contains_cons]
    congr 1
    rw [Bool.eq_iff_iff]; simp only [decide_eq_true_eq, beq_iff_eq, Nat.beq_eq]; exact eq_comm
theorem onlyN_eq {i : Nat} {l : List Nat} (h : onlyN i l = true) : l = [i] := by
  match l with
  | [] => cases h
  | [j] => simp only [onlyN, Nat.beq_eq] at h; rw [h]
  | _ :: _ :: _ => cases h
theorem ready_rep {l : Array Bool} {m : Nat} (h : Rep ops l m) : Region.ready .any ops l = readyN (sumS ops) 0 m := by
  have key : ∀ (s : List Oper) (i : Nat), (∀ k (hk : k < s.length), ops[i + k]? = some s[k]) → (List.range' i s.length).filter (fun j => !l.getD j true && ((ops[j]?).map (·.after.all fun e => !Region.binds .any e || l.getD e.on false)).getD false) = readyN (s.map (opS ops)) i m := by
    intro s
    induction s with
    | nil => intro i _; rfl
    | cons x s ih =>
      intro i hk
      have hx : ops[i]? = some x := hk 0 (by simp)
      have hlt : i < ops.size := (Array.getElem?_eq_some_iff.1 hx).1
      have hih := ih (i + 1) (fun k hk2 => by have := hk (k + 1) (by simpa using hk2); rw [show i + 1 + k = i + (k + 1) by omega]; simpa using this)
      have hT : l.getD i true = tb m i := by
        rw [← h.2 i]
        have : i < l.size := by rw [h.1]; exact hlt
        simp [this]
      have hA : (x.after.all fun e => !Region.binds .any e || l.getD e.on false) = subN (opS ops x).nd m := by
        rw [Bool.eq_iff_iff, sub_iff, Array.all_eq_true_iff_forall_mem]
        unfold opS
        dsimp only
        constructor
        · intro hall j hj
          rw [tb_mask, List.contains_iff_mem] at hj
          obtain ⟨e, he, rfl⟩ := List.mem_map.1 hj
          obtain ⟨he1, he2⟩ := List.mem_filter.1 he
          have := hall e (by simpa using he1)
          rw [he2, h.2] at this
          simpa using this
        · intro hall e he
          rw [h.2]
          cases hb : Region.binds .any e with
          | false => rfl
          | true =>
            have := hall e.on (by rw [tb_mask, List.contains_iff_mem]; exact List.mem_map.2 ⟨e, List.mem_filter.2 ⟨by simpa using he, hb⟩, rfl⟩)
            simpa using this
      rw [List.length_cons, List.range'_succ, List.filter_cons, List.map_cons, readyN, ← hih]
      simp only [hx, hT, Option.map_some, Option.getD_some, hA]
      cases (!tb m i && subN (opS ops x).nd m) <;> rfl
  have := key ops.toList 0 (fun k hk => by rw [Nat.zero_add]; simp at hk ⊢)
  unfold Region.ready sumS
  rw [← this, List.range_eq_range', Array.length_toList]
theorem ready_lt {i m : Nat} (h : memN i (readyN (sumS ops) 0 m) = true) : i < ops.size := by
  have key : ∀ (s : List OpS) (b : Nat), memN i (readyN s b m) = true → i < b + s.length := by
    intro s
    induction s with
    | nil => intro b h; simp [readyN, memN] at h
    | cons x s ih =>
      intro b h
      simp only [readyN] at h
      cases hc : (!tb m b && subN x.nd m) with
      | false => rw [hc] at h; have := ih (b + 1) h; simp only [List.length_cons]; omega
      | true =>
        rw [hc] at h
        simp only [cond_true, memN, Bool.or_eq_true, Nat.beq_eq] at h
        rcases h with h | h
        · simp only [List.length_cons]; omega
        · have := ih (b + 1) h; simp only [List.length_cons]; omega
  have := key _ _ h
  simpa [sumS] using this
theorem rep_set {l : Array Bool} {m i : Nat} (h : Rep ops l m) (hi : i < ops.size) : Rep ops (l.setIfInBounds i true) (orB m i) := by
  refine ⟨by simpa using h.1, fun j => ?_⟩
  rw [tb_orB, ← h.2 j]
  by_cases e : i = j
  · subst e
    have : i < l.size := by rw [h.1]; exact hi
    simp [this]
  · simp [e, Array.getElem?_setIfInBounds_ne e]
theorem apart_rep (x y : Oper) : apartN (opS ops x) (opS ops y) = x.apart ops y := by
  unfold apartN Oper.apart opS
  dsimp only
  congr 1
  · cases x.dst with
    | none => rfl
    | some d => dsimp only; rw [tb_mask]
  · cases y.dst with
    | none => rfl
    | some d => dsimp only; rw [tb_mask]
theorem free_rep {l : Array Bool} {m i : Nat} (h : Rep ops l m) (hf : (match (sumS ops)[i]? with | some x => freeN x i m (sumS ops) 0 | none => false) = true) : Region.free .any ops l i = true := by
  unfold Region.free
  have hsum : (sumS ops)[i]? = (ops[i]?).map (opS ops) := by simp [sumS]
  rw [hsum] at hf
  cases hoi : ops[i]? with
  | none => rw [hoi] at hf; cases hf
  | some oi =>
    rw [hoi] at hf
    dsimp only [Option.map_some] at hf ⊢
    rw [List.all_eq_true]
    intro j hj
    rw [List.mem_range] at hj
    have key : ∀ (s : List Oper) (b : Nat), freeN (opS ops oi) i m (s.map (opS ops)) b = true → ∀ k (hk : k < s.length), (Nat.beq (b + k) i || tb m (b + k) || tb (opS ops s[k]).nd i || apartN (opS ops oi) (opS ops s[k])) = true := by
      intro s
      induction s with
      | nil => intro b _ k hk; simp at hk
      | cons x s ih =>
        intro b hb k hk
        simp only [List.map_cons, freeN] at hb
        rw [Bool.and_eq_true] at hb
        match k with
        | 0 => simpa using hb.1
        | k + 1 =>
          have := ih (b + 1) hb.2 k (by simpa using hk)
          rw [show b + (k + 1) = b + 1 + k by omega]
          simpa using this
    have hk := key ops.toList 0 hf j (by simpa using hj)
    rw [Nat.zero_add] at hk
    have hoj : ops[j]? = some ops[j] := by simp [hj]
    rw [hoj]
    dsimp only
    have hT : l.getD j true = tb m j := by
      rw [← h.2 j]
      have : j < l.size := by rw [h.1]; exact hj
      simp [this]
    rw [hT, ← apart_rep]
    simp only [Bool.or_eq_true, Nat.beq_eq] at hk ⊢
    rcases hk with ((hk | hk) | hk) | hk
    · left; left; simpa using hk
    · left; right; exact hk
    · right; left
      rw [Array.any_eq_true']
      unfold opS at hk
      dsimp only at hk
      rw [tb_mask, List.contains_iff_mem] at hk
      obtain ⟨e, he, hei⟩ := List.mem_map.1 hk
      obtain ⟨he1, he2⟩ := List.mem_filter.1 he
      exact ⟨e, by simpa using he1, by simp [he2, hei]⟩
    · right; right
      simpa using hk
theorem close_rep (i : Nat) : ∀ (k : Nat) {l : Array Bool} {m : Nat}, Rep ops l m → Rep ops (closeB ops i k l) (closeN (sumS ops) i k m)
  | 0, _, _, h => h
  | k + 1, l, m, h => by
    unfold closeB closeN
    refine close_rep i k ?_
    rw [ready_rep h]
    have key : ∀ (xs : List Nat) (l : Array Bool) (m : Nat), (∀ x ∈ xs, x < ops.size) → Rep ops l m → Rep ops (xs.foldl (fun l j => bif Nat.beq j i then l else l.setIfInBounds j true) l) (xs.foldl (fun m j => bif Nat.beq j i then m else orB m j) m) := by
      intro xs
      induction xs with
      | nil => intro l m _ h; exact h
      | cons x xs ih =>
        intro l m hx h
        rw [List.foldl_cons, List.foldl_cons]
        refine ih _ _ (fun y hy => hx y (.tail _ hy)) ?_
        cases Nat.beq x i
        · exact rep_set h (hx x (.head _))
        · exact h
    exact key _ _ _ (fun x hx => ready_lt (by rw [memN_eq, List.contains_iff_mem]; exact hx)) h
theorem draw_rep {late : List Nat} : ∀ (ord : List (Nat × Nat)) {l : Array Bool} {m : Nat}, Rep ops l m → drawN (sumS ops) ops.size late ord m = true → drawB ops late ord l = true
  | [], l, m, h, hd => by
    simp only [drawN] at hd
    simp only [drawB, ready_rep h]
    cases hr : readyN (sumS ops) 0 m with
    | nil => rfl
    | cons _ _ => rw [hr] at hd; cases hd
  | (i, t) :: rest, l, m, h, hd => by
    simp only [drawN, Bool.and_eq_true] at hd
    obtain ⟨h1, h2⟩ := hd
    simp only [drawB, Bool.and_eq_true]
    have hlt : i < ops.size := by
      match t, h1 with
      | 0, h1 => simp only [Bool.and_eq_true] at h1; exact ready_lt h1.1.1
      | 1, h1 => simp only [Bool.and_eq_true] at h1; exact ready_lt h1.1.1.1
      | 2, h1 => simp only [Bool.and_eq_true] at h1; exact ready_lt (m := m) (by rw [onlyN_eq h1.1]; simp [memN])
      | t + 3, h1 => simp only [Bool.and_eq_true] at h1; exact ready_lt (m := m) (by rw [onlyN_eq h1.1]; simp [memN])
    refine ⟨?_, draw_rep rest (rep_set h hlt) h2⟩
    rw [ready_rep h]
    match t, h1 with
    | 0, h1 =>
      simp only [Bool.and_eq_true, memN_eq] at h1 ⊢
      exact ⟨⟨h1.1.1, free_rep h h1.1.2⟩, h1.2⟩
    | 1, h1 =>
      simp only [Bool.and_eq_true, memN_eq] at h1 ⊢
      obtain ⟨⟨⟨a1, a2⟩, a3⟩, ⟨⟨⟨a4, a5⟩, a6⟩, a7⟩⟩ := h1
      have hc := close_rep i ops.size h
      refine ⟨⟨⟨a1, free_rep h a2⟩, a3⟩, ⟨⟨⟨?_, ?_⟩, ?_⟩, ?_⟩⟩
      · rw [ready_rep hc]; exact a4
      · rw [← a5]
        unfold badB
        congr 2
        funext q; exact hc.2 q
      · rw [hc.2]; exact a6
      · rw [List.all_eq_true]
        intro j _
        have := (sub_iff _ _).1 a7 j
        rw [h.2, hc.2]
        cases ht : tb m j with
        | false => rfl
        | true => rw [this ht]; rfl
    | 2, h1 =>
      simp only [Bool.and_eq_true, memN_eq] at h1 ⊢
      exact ⟨by rw [onlyN_eq h1.1]; simp, h1.2⟩
    | t + 3, h1 =>
      simp only [Bool.and_eq_true, memN_eq] at h1 ⊢
      exact ⟨by rw [onlyN_eq h1.1]; simp, h1.2⟩
theorem drawOK_of {late : List Nat} {ord : List (Nat × Nat)} (h : drawOKN ops late ord = true) : drawOK ops late ord = true := by
  unfold drawOKN at h
  unfold drawOK
  simp only [Bool.and_eq_true] at h ⊢
  exact ⟨h.1, draw_rep ord ⟨by simp, fun j => by
    have : tb 0 j = false := by rw [tb_eq]; exact Nat.zero_testBit j
    rw [this]
    by_cases hj : j < ops.size
    · simp [hj]
    · simp [hj]⟩ h.2⟩
end Go.Rt
/- The walking engine, part 17: a number of sixteen bits as an int. No conditions. -/
set_option linter.unusedSimpArgs false
set_option linter.unusedVariables false
namespace Go.Rt
open Go.RowKit
variable {P : Program} {n : Nat} {ρ : Nat → Value} {ds : List Deferred} {w : World} {d : Option Tmp} {ty : TypeId} {p : String} {e : Array Edge} {g : Option (Nat × Bool)}
end Go.Rt
