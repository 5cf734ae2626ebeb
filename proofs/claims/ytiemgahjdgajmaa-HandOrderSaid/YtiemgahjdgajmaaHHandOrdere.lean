/- Own texts of this claim, joined. No conditions. -/
import Derived.Test.YtiemgahjdgajmaaHHandOrdera
import Derived.Test.YtiemgahjdgajmaaHHandOrderb
import Derived.Test.YtiemgahjdgajmaaHHandOrderc
import Derived.Test.YtiemgahjdgajmaaHHandOrderd
/- Walks of this seat, printed by gen.py over the engine: what each function returns, in whatever world. No conditions but those of each contract. -/
set_option linter.unusedVariables false
set_option linter.unusedSimpArgs false
set_option maxRecDepth 20000
namespace Go.Proofs
open Go.Rt Go.Rt.Ha
attribute [local irreducible] WL WC Con Yd At Ats Sl Agree DW

theorem c114 {w0 w : World} {F : List (Nat × Obj)} (x : Int) (hs : St w0 w F) :
  Con Try.prog 114 [.int .i64 x] w fun v w' => v = .bool false ∧ St w0 w' F := by
  refine con_of_wc (n := 6) Try.func114 rfl rfl (Nat.le_of_ble_eq_true rfl) ?_
  refine w_seq (fun K2 hK1 => ?_)
  refine w_region ?_
  refine w_pure want_none (y_assign (v := _) rfl rfl) rfl ?_
  refine w_nil ?_
  refine q_then (hK1 _ _ ?_)
  refine w_seq (fun K4 hK3 => ?_)
  refine w_region ?_
  refine w_pure want_none (y_move (v := .int _ _) rfl rfl) rfl ?_
  refine w_pure want_none (y_move (v := .int _ _) rfl rfl) rfl ?_
  refine w_pure want_none (y_neq rfl rfl rfl rfl) rfl ?_
  refine w_pure want_none (y_assign (v := .bool _) rfl rfl) rfl ?_
  refine w_nil ?_
  refine q_then (hK3 _ _ ?_)
  refine w_ret ?_
  refine q_ret (l := [.tmp 2]) (vs := [_]) rfl ⟨⟨rfl, show _ = (.bool _ : Value) from rfl⟩, trivial⟩ ?_
  exact ⟨by simp [retV], hs⟩

def cmpI (a b : Int) : Int := if a < b then -1 else if b < a then 1 else 0
theorem c113 {w0 w : World} {F : List (Nat × Obj)} (a b : Int) (hs : St w0 w F) :
  Con Try.prog 113 [.int .i64 a, .int .i64 b] w fun v w' => v = .int .i64 (cmpI a b) ∧ St w0 w' F := by
  refine con_of_wc (n := 20) Try.func113 rfl rfl (Nat.le_of_ble_eq_true rfl) ?_
  refine w_seq (fun K2 hK1 => ?_)
  refine w_region ?_
  refine w_pure want_none (y_assign (v := _) rfl rfl) rfl ?_
  refine w_nil ?_
  refine q_then (hK1 _ _ ?_)
  refine w_seq (fun K4 hK3 => ?_)
  refine w_region ?_
  refine w_pure want_none (y_move (v := .int _ _) rfl rfl) rfl ?_
  refine w_call want_none Try.call114 rfl rfl rfl rfl (c114 _ hs) ?_
  rintro _ w6 ⟨rfl, hs7⟩
  refine w_pure want_none (y_assign (v := .bool _) rfl rfl) rfl ?_
  refine w_nil ?_
  refine q_then (hK3 _ _ ?_)
  refine w_seq (fun K9 hK8 => ?_)
  refine w_region ?_
  refine w_pure want_none (y_move (v := .int _ _) rfl rfl) rfl ?_
  refine w_call want_none Try.call114 rfl rfl rfl rfl (c114 _ hs7) ?_
  rintro _ w11 ⟨rfl, hs12⟩
  refine w_pure want_none (y_assign (v := .bool _) rfl rfl) rfl ?_
  refine w_nil ?_
  refine q_then (hK8 _ _ ?_)
  refine w_seq (fun K14 hK13 => ?_)
  refine w_seq (fun K16 hK15 => ?_)
  refine w_region ?_
  refine w_pure want_none (y_move (v := .bool _) rfl rfl) rfl ?_
  refine w_nil ?_
  refine q_then (hK15 _ _ ?_)
  refine w_condF rfl rfl ?_
  refine w_skip ?_
  refine q_then (hK13 _ _ ?_)
  refine w_seq (fun K18 hK17 => ?_)
  refine w_seq (fun K20 hK19 => ?_)
  refine w_region ?_
  refine w_pure want_none (y_move (v := .bool _) rfl rfl) rfl ?_
  refine w_nil ?_
  refine q_then (hK19 _ _ ?_)
  refine w_condF rfl rfl ?_
  refine w_skip ?_
  refine q_then (hK17 _ _ ?_)
  refine w_seq (fun K22 hK21 => ?_)
  refine w_seq (fun K24 hK23 => ?_)
  refine w_region ?_
  refine w_pure want_none (y_move (v := .int _ _) rfl rfl) rfl ?_
  refine w_pure want_none (y_move (v := .int _ _) rfl rfl) rfl ?_
  refine w_pure want_none (y_lss rfl rfl rfl rfl) rfl ?_
  refine w_nil ?_
  refine q_then (hK23 _ _ ?_)
  refine w_cond rfl rfl (fun h25 => ?_) (fun h25 => ?_)
  ·
   try simp only [Bool.not_eq_true', Bool.not_eq_false', decide_eq_true_eq, decide_eq_false_iff_not, Int.not_lt, Int.not_le] at h25
   refine w_seq (fun K27 hK26 => ?_)
   refine w_region ?_
   refine w_pure want_none (y_assign (v := _) rfl rfl) rfl ?_
   refine w_nil ?_
   refine q_then (hK26 _ _ ?_)
   refine w_ret ?_
   refine q_then_ret ?_
   refine q_ret (l := [.tmp 4]) (vs := [_]) rfl ⟨⟨rfl, show _ = (.int _ _ : Value) from rfl⟩, trivial⟩ ?_
   exact ⟨congrArg (Value.int .i64) (by unfold cmpI; (repeat' split) <;> first | rfl | omega), hs12⟩
  ·
   try simp only [Bool.not_eq_true', Bool.not_eq_false', decide_eq_true_eq, decide_eq_false_iff_not, Int.not_lt, Int.not_le] at h25
   refine w_skip ?_
   refine q_then (hK21 _ _ ?_)
   refine w_seq (fun K29 hK28 => ?_)
   refine w_seq (fun K31 hK30 => ?_)
   refine w_region ?_
   refine w_pure want_none (y_move (v := .int _ _) rfl rfl) rfl ?_
   refine w_pure want_none (y_move (v := .int _ _) rfl rfl) rfl ?_
   refine w_pure want_none (y_gtr rfl rfl rfl rfl) rfl ?_
   refine w_nil ?_
   refine q_then (hK30 _ _ ?_)
   refine w_cond rfl rfl (fun h32 => ?_) (fun h32 => ?_)
   ·
    try simp only [Bool.not_eq_true', Bool.not_eq_false', decide_eq_true_eq, decide_eq_false_iff_not, Int.not_lt, Int.not_le] at h32
    refine w_seq (fun K34 hK33 => ?_)
    refine w_region ?_
    refine w_pure want_none (y_assign (v := _) rfl rfl) rfl ?_
    refine w_nil ?_
    refine q_then (hK33 _ _ ?_)
    refine w_ret ?_
    refine q_then_ret ?_
    refine q_ret (l := [.tmp 4]) (vs := [_]) rfl ⟨⟨rfl, show _ = (.int _ _ : Value) from rfl⟩, trivial⟩ ?_
    exact ⟨congrArg (Value.int .i64) (by unfold cmpI; (repeat' split) <;> first | rfl | omega), hs12⟩
   ·
    try simp only [Bool.not_eq_true', Bool.not_eq_false', decide_eq_true_eq, decide_eq_false_iff_not, Int.not_lt, Int.not_le] at h32
    refine w_skip ?_
    refine q_then (hK28 _ _ ?_)
    refine w_seq (fun K36 hK35 => ?_)
    refine w_region ?_
    refine w_pure want_none (y_assign (v := _) rfl rfl) rfl ?_
    refine w_nil ?_
    refine q_then (hK35 _ _ ?_)
    refine w_ret ?_
    refine q_ret (l := [.tmp 4]) (vs := [_]) rfl ⟨⟨rfl, show _ = (.int _ _ : Value) from rfl⟩, trivial⟩ ?_
    exact ⟨congrArg (Value.int .i64) (by unfold cmpI; (repeat' split) <;> first | rfl | omega), hs12⟩

theorem cmp_here {a b : List Int} {i : Nat} (h : a.take i = b.take i) (ha : i < a.length) (hb : i < b.length) (hne : ¬ cmpI a[i] b[i] = 0) : decide (0 < cmpI a[i] b[i]) = less b a := by
  have hn : a[i] ≠ b[i] := fun e => hne (by unfold cmpI; rw [e]; simp)
  rw [less_here h.symm hb ha (fun e => hn e.symm)]
  unfold cmpI
  rw [Bool.eq_iff_iff]
  simp only [decide_eq_true_eq]
  split
  · simp; omega
  · split <;> simp <;> omega
theorem cmp_zero {a b : Int} (h : cmpI a b = 0) : a = b := by
  unfold cmpI at h
  split at h
  · omega
  · split at h <;> omega
theorem c111 {w0 w : World} {F : List (Nat × Obj)} (aa ab : Option Addr) (a b : List Int) (ca cb : Nat) (hla : a.length ≤ 9223372036854775807) (hlb : b.length ≤ 9223372036854775807) (ha : Sl w0 F aa 1 (a.map fun x => [Value.int .i64 x])) (hb : Sl w0 F ab 1 (b.map fun x => [Value.int .i64 x])) (hs : St w0 w F) :
  Con Try.prog 111 [.slice aa a.length ca, .slice ab b.length cb] w fun v w' => (∃ z, v = .int .i64 z ∧ decide (0 < z) = less b a) ∧ St w0 w' F := by
  refine con_of_wc (n := 36) Try.func111 rfl rfl (Nat.le_of_ble_eq_true rfl) ?_
  refine w_seq (fun K2 hK1 => ?_)
  refine w_region ?_
  refine w_pure want_none (y_assign (v := _) rfl rfl) rfl ?_
  refine w_nil ?_
  refine q_then (hK1 _ _ ?_)
  refine w_seq (fun K4 hK3 => ?_)
  refine w_seq (fun K6 hK5 => ?_)
  refine w_region ?_
  refine w_pure want_none (y_move (v := .slice _ _ _) rfl rfl) rfl ?_
  refine w_pure want_none (y_lenS Try.underlying37 rfl rfl) rfl ?_
  refine w_pure want_none (y_move (v := _) rfl rfl) rfl ?_
  refine w_nil ?_
  refine q_then (hK5 _ _ ?_)
  refine w_block ?_
  refine w_loop [4, 5, 6, 7, 8, 11, 12, 13, 14, 15, 16, 17, 18, 19, 20, 21, 22, 23, 24, 25, 26, 27, 28, 29, 30] [11] (fun k vs w => ∃ i : Nat, vs = [.int .i64 i] ∧ i ≤ a.length ∧ i ≤ b.length ∧ k = a.length - i ∧ a.take i = b.take i ∧ St w0 w F) (a.length) ?_ ?_
  ·
   exact ⟨0, rfl, by omega, by omega, by omega, rfl, hs⟩
  ·
   intro k vs μ w9 hI K8 hN7
   obtain ⟨i, rfl, hia, hib, rfl, hpre, hs⟩ := hI
   refine w_seq (fun K11 hK10 => ?_)
   refine w_region ?_
   refine w_pure want_none (y_lss rfl rfl rfl rfl) rfl ?_
   refine w_nil ?_
   refine q_then (hK10 _ _ ?_)
   refine w_seq (fun K13 hK12 => ?_)
   refine w_cond rfl rfl (fun h14 => ?_) (fun h14 => ?_)
   ·
    try simp only [Bool.not_eq_true', Bool.not_eq_false', decide_eq_true_eq, decide_eq_false_iff_not, Int.not_lt, Int.not_le] at h14
    refine w_skip ?_
    refine q_then (hK12 _ _ ?_)
    refine w_seq (fun K16 hK15 => ?_)
    refine w_block ?_
    refine w_seq (fun K18 hK17 => ?_)
    have hia2 : i < a.length := by omega
    obtain ⟨ba, oa, rfl, hxa⟩ := sl_ints ha hia2
    refine w_region ?_
    refine w_pure want_none (y_move (v := .int _ _) rfl rfl) rfl ?_
    refine w_pure want_none (y_indexS Try.underlying37 Try.sizeOf3 rfl rfl rfl rfl (i := _) rfl (by omega)) rfl ?_
    refine w_pure want_none (y_load1 Try.isAgg3 hs rfl rfl hxa) rfl ?_
    refine w_pure want_none (y_assign (v := .int _ _) rfl rfl) rfl ?_
    refine w_pure want_none (y_assign (v := .int _ _) rfl rfl) rfl ?_
    refine w_nil ?_
    refine q_then (hK17 _ _ ?_)
    refine w_seq (fun K20 hK19 => ?_)
    refine w_seq (fun K22 hK21 => ?_)
    refine w_region ?_
    refine w_pure want_none (y_move (v := .int _ _) rfl rfl) rfl ?_
    refine w_pure want_none (y_move (v := .slice _ _ _) rfl rfl) rfl ?_
    refine w_pure want_none (y_lenS Try.underlying37 rfl rfl) rfl ?_
    refine w_pure want_none (y_geq rfl rfl rfl rfl) rfl ?_
    refine w_nil ?_
    refine q_then (hK21 _ _ ?_)
    refine w_cond rfl rfl (fun h23 => ?_) (fun h23 => ?_)
    ·
     try simp only [Bool.not_eq_true', Bool.not_eq_false', decide_eq_true_eq, decide_eq_false_iff_not, Int.not_lt, Int.not_le] at h23
     refine w_seq (fun K25 hK24 => ?_)
     refine w_region ?_
     refine w_pure want_none (y_assign (v := _) rfl rfl) rfl ?_
     refine w_nil ?_
     refine q_then (hK24 _ _ ?_)
     refine w_ret ?_
     refine q_then_ret ?_
     refine q_blk_ret ?_
     refine q_then_ret ?_
     refine q_then_ret ?_
     refine q_blk_ret ?_
     refine q_then_ret ?_
     refine q_ret (l := [.tmp 4]) (vs := [_]) rfl ⟨⟨rfl, show _ = (.int _ _ : Value) from rfl⟩, trivial⟩ ?_
     first
       | exact ⟨⟨_, rfl, cmp_here hpre hia2 hib2 (by assumption)⟩, hs⟩
       | exact ⟨⟨_, rfl, by rw [less_short hpre.symm (by omega) (by omega)]; rfl⟩, hs⟩
       | exact ⟨⟨_, rfl, by rw [less_end hpre.symm hib (by omega)]; rfl⟩, hs⟩
    ·
     try simp only [Bool.not_eq_true', Bool.not_eq_false', decide_eq_true_eq, decide_eq_false_iff_not, Int.not_lt, Int.not_le] at h23
     refine w_skip ?_
     refine q_then (hK19 _ _ ?_)
     refine w_seq (fun K27 hK26 => ?_)
     have hib2 : i < b.length := by omega
     obtain ⟨bb, ob, rfl, hxb⟩ := sl_ints hb hib2
     refine w_region ?_
     refine w_pure want_none (y_move (v := .slice _ _ _) rfl rfl) rfl ?_
     refine w_pure want_none (y_move (v := .int _ _) rfl rfl) rfl ?_
     refine w_pure want_none (y_indexS Try.underlying37 Try.sizeOf3 rfl rfl rfl rfl (i := _) rfl (by omega)) rfl ?_
     refine w_pure want_none (y_load1 Try.isAgg3 hs rfl rfl hxb) rfl ?_
     refine w_pure want_none (y_assign (v := .int _ _) rfl rfl) rfl ?_
     refine w_nil ?_
     refine q_then (hK26 _ _ ?_)
     refine w_seq (fun K29 hK28 => ?_)
     refine w_region ?_
     refine w_pure want_none (y_move (v := .int _ _) rfl rfl) rfl ?_
     refine w_pure want_none (y_move (v := .int _ _) rfl rfl) rfl ?_
     refine w_call want_none Try.call113 rfl rfl rfl rfl (c113 _ _ hs) ?_
     rintro _ w31 ⟨rfl, hs32⟩
     refine w_pure want_none (y_assign (v := .int _ _) rfl rfl) rfl ?_
     refine w_nil ?_
     refine q_then (hK28 _ _ ?_)
     refine w_seq (fun K34 hK33 => ?_)
     refine w_region ?_
     refine w_pure want_none (y_move (v := .int _ _) rfl rfl) rfl ?_
     refine w_pure want_none (y_neq rfl rfl rfl rfl) rfl ?_
     refine w_nil ?_
     refine q_then (hK33 _ _ ?_)
     refine w_cond rfl rfl (fun h35 => ?_) (fun h35 => ?_)
     ·
      try simp only [Bool.not_eq_true', Bool.not_eq_false', decide_eq_true_eq, decide_eq_false_iff_not, Int.not_lt, Int.not_le] at h35
      refine w_seq (fun K37 hK36 => ?_)
      refine w_region ?_
      refine w_pure want_none (y_move (v := .int _ _) rfl rfl) rfl ?_
      refine w_pure want_none (y_assign (v := .int _ _) rfl rfl) rfl ?_
      refine w_nil ?_
      refine q_then (hK36 _ _ ?_)
      refine w_ret ?_
      refine q_blk_ret ?_
      refine q_then_ret ?_
      refine q_then_ret ?_
      refine q_blk_ret ?_
      refine q_then_ret ?_
      refine q_ret (l := [.tmp 4]) (vs := [_]) rfl ⟨⟨rfl, show _ = (.int _ _ : Value) from rfl⟩, trivial⟩ ?_
      first
        | exact ⟨⟨_, rfl, cmp_here hpre hia2 hib2 (by assumption)⟩, hs32⟩
        | exact ⟨⟨_, rfl, by rw [less_short hpre.symm (by omega) (by omega)]; rfl⟩, hs32⟩
        | exact ⟨⟨_, rfl, by rw [less_end hpre.symm hib (by omega)]; rfl⟩, hs32⟩
     ·
      try simp only [Bool.not_eq_true', Bool.not_eq_false', decide_eq_true_eq, decide_eq_false_iff_not, Int.not_lt, Int.not_le] at h35
      refine w_skip ?_
      refine q_blk_normal ?_
      refine q_then (hK15 _ _ ?_)
      refine w_region ?_
      refine w_pure want_none (y_add rfl rfl rfl rfl (by omega) (by omega)) rfl ?_
      refine w_pure want_none (y_move (v := .int _ _) rfl rfl) rfl ?_
      refine w_nil ?_
      refine q_then (hN7 _ _ (Nx.intro (a.length - (i + 1)) (by omega) (by repeat (first | exact agree_mix | refine agree_upd rfl ?_ | refine agree_updL rfl ?_ _ | refine agree_mixin rfl ?_)) ?_))
      exact ⟨i + 1, rfl, by omega, by omega, rfl, take_snoc_eq hpre (by omega) (by omega) (cmp_zero (by assumption)), hs32⟩
   ·
    try simp only [Bool.not_eq_true', Bool.not_eq_false', decide_eq_true_eq, decide_eq_false_iff_not, Int.not_lt, Int.not_le] at h14
    refine w_exit ?_
    refine q_then_exit ?_
    refine q_then_exit ?_
    refine q_blk_this ?_
    refine q_then (hK3 _ _ ?_)
    refine w_seq (fun K39 hK38 => ?_)
    refine w_seq (fun K41 hK40 => ?_)
    refine w_region ?_
    refine w_pure want_none (y_move (v := .slice _ _ _) rfl rfl) rfl ?_
    refine w_pure want_none (y_lenS Try.underlying37 rfl rfl) rfl ?_
    refine w_pure want_none (y_move (v := .slice _ _ _) rfl rfl) rfl ?_
    refine w_pure want_none (y_lenS Try.underlying37 rfl rfl) rfl ?_
    refine w_pure want_none (y_lss rfl rfl rfl rfl) rfl ?_
    refine w_nil ?_
    refine q_then (hK40 _ _ ?_)
    refine w_cond rfl rfl (fun h42 => ?_) (fun h42 => ?_)
    ·
     try simp only [Bool.not_eq_true', Bool.not_eq_false', decide_eq_true_eq, decide_eq_false_iff_not, Int.not_lt, Int.not_le] at h42
     refine w_seq (fun K44 hK43 => ?_)
     refine w_region ?_
     refine w_pure want_none (y_assign (v := _) rfl rfl) rfl ?_
     refine w_nil ?_
     refine q_then (hK43 _ _ ?_)
     refine w_ret ?_
     refine q_then_ret ?_
     refine q_ret (l := [.tmp 4]) (vs := [_]) rfl ⟨⟨rfl, show _ = (.int _ _ : Value) from rfl⟩, trivial⟩ ?_
     first
       | exact ⟨⟨_, rfl, cmp_here hpre hia2 hib2 (by assumption)⟩, hs⟩
       | exact ⟨⟨_, rfl, by rw [less_short hpre.symm (by omega) (by omega)]; rfl⟩, hs⟩
       | exact ⟨⟨_, rfl, by rw [less_end hpre.symm hib (by omega)]; rfl⟩, hs⟩
    ·
     try simp only [Bool.not_eq_true', Bool.not_eq_false', decide_eq_true_eq, decide_eq_false_iff_not, Int.not_lt, Int.not_le] at h42
     refine w_skip ?_
     refine q_then (hK38 _ _ ?_)
     refine w_seq (fun K46 hK45 => ?_)
     refine w_region ?_
     refine w_pure want_none (y_assign (v := _) rfl rfl) rfl ?_
     refine w_nil ?_
     refine q_then (hK45 _ _ ?_)
     refine w_ret ?_
     refine q_ret (l := [.tmp 4]) (vs := [_]) rfl ⟨⟨rfl, show _ = (.int _ _ : Value) from rfl⟩, trivial⟩ ?_
     first
       | exact ⟨⟨_, rfl, cmp_here hpre hia2 hib2 (by assumption)⟩, hs⟩
       | exact ⟨⟨_, rfl, by rw [less_short hpre.symm (by omega) (by omega)]; rfl⟩, hs⟩
       | exact ⟨⟨_, rfl, by rw [less_end hpre.symm hib (by omega)]; rfl⟩, hs⟩

def maxTo (l : List Int) : Nat → Int
  | 0 => l.getD 0 0
  | n + 1 => max (maxTo l n) (l.getD (n + 1) 0)
theorem c88 {w0 w : World} {F : List (Nat × Obj)} (aa : Option Addr) (l : List Int) (ca : Nat) (h0 : 0 < l.length) (hl : l.length ≤ 1000) (ha : Sl w0 F aa 1 (l.map fun x => [Value.int .i64 x])) (hs : St w0 w F) :
  Con Try.prog 88 [.slice aa l.length ca] w fun v w' => v = .int .i64 (maxTo l (l.length - 1)) ∧ St w0 w' F := by
  refine con_of_wc (n := 25) Try.func88 rfl rfl (Nat.le_of_ble_eq_true rfl) ?_
  have hg : ∀ i (h : i < l.length), l[i] = l.getD i 0 := fun i h => by simp [List.getD, h]
  obtain ⟨b0, o0, rfl, hx0⟩ := sl_ints ha h0
  refine w_seq (fun K2 hK1 => ?_)
  refine w_region ?_
  refine w_pure want_none (y_assign (v := _) rfl rfl) rfl ?_
  refine w_nil ?_
  refine q_then (hK1 _ _ ?_)
  refine w_seq (fun K4 hK3 => ?_)
  refine w_seq (fun K6 hK5 => ?_)
  refine w_region ?_
  refine w_pure want_none (y_move (v := .slice _ _ _) rfl rfl) rfl ?_
  refine w_pure want_none (y_lenS Try.underlying37 rfl rfl) rfl ?_
  refine w_pure want_none (y_lss rfl rfl rfl rfl) rfl ?_
  refine w_nil ?_
  refine q_then (hK5 _ _ ?_)
  refine w_cond rfl rfl (fun h7 => ?_) (fun h7 => ?_)
  ·
   exfalso
   try simp only [Bool.not_eq_true', Bool.not_eq_false', decide_eq_true_eq, decide_eq_false_iff_not, Int.not_lt, Int.not_le] at h7
   omega
  ·
   try simp only [Bool.not_eq_true', Bool.not_eq_false', decide_eq_true_eq, decide_eq_false_iff_not, Int.not_lt, Int.not_le] at h7
   refine w_skip ?_
   refine q_then (hK3 _ _ ?_)
   refine w_seq (fun K9 hK8 => ?_)
   refine w_region ?_
   refine w_pure want_none (y_move (v := .slice _ _ _) rfl rfl) rfl ?_
   refine w_pure want_none (y_indexS Try.underlying37 Try.sizeOf3 rfl rfl rfl rfl (i := 0) rfl (by omega)) rfl ?_
   refine w_pure want_none (y_load1 Try.isAgg3 hs rfl rfl hx0) rfl ?_
   refine w_pure want_none (y_assign (v := .int _ _) rfl rfl) rfl ?_
   refine w_nil ?_
   refine q_then (hK8 _ _ ?_)
   refine w_seq (fun K11 hK10 => ?_)
   refine w_seq (fun K13 hK12 => ?_)
   refine w_region ?_
   refine w_pure want_none (y_assign (v := _) rfl rfl) rfl ?_
   refine w_nil ?_
   refine q_then (hK12 _ _ ?_)
   refine w_block ?_
   refine w_loop [3, 4, 12, 13, 14, 15, 16, 17, 18, 19, 20, 21, 22, 23] [3, 4] (fun k vs w => ∃ i : Nat, vs = [.int .i64 (maxTo l i), .int .i64 ((i : Int) + 1)] ∧ i + 1 ≤ l.length ∧ k = l.length - i ∧ St w0 w F) (l.length) ?_ ?_
   ·
    exact ⟨0, iv2 (hg 0 h0) rfl, by omega, by omega, hs⟩
   ·
    intro k vs μ w16 hI K15 hN14
    obtain ⟨i, rfl, hia, rfl, hs⟩ := hI
    refine w_seq (fun K18 hK17 => ?_)
    refine w_seq (fun K20 hK19 => ?_)
    refine w_region ?_
    refine w_pure want_none (y_move (v := .int _ _) rfl rfl) rfl ?_
    refine w_pure want_none (y_move (v := .slice _ _ _) rfl rfl) rfl ?_
    refine w_pure want_none (y_lenS Try.underlying37 rfl rfl) rfl ?_
    refine w_pure want_none (y_lss rfl rfl rfl rfl) rfl ?_
    refine w_nil ?_
    refine q_then (hK19 _ _ ?_)
    refine w_cond rfl rfl (fun h21 => ?_) (fun h21 => ?_)
    ·
     try simp only [Bool.not_eq_true', Bool.not_eq_false', decide_eq_true_eq, decide_eq_false_iff_not, Int.not_lt, Int.not_le] at h21
     refine w_skip ?_
     refine q_then (hK17 _ _ ?_)
     refine w_seq (fun K23 hK22 => ?_)
     refine w_block ?_
     have hi2 : i + 1 < l.length := by omega
     obtain ⟨b1, o1, hb1, hx1⟩ := sl_ints ha hi2
     cases hb1
     refine w_region ?_
     refine w_pure want_none (y_move (v := .int _ _) rfl rfl) rfl ?_
     refine w_pure want_none (y_move (v := .slice _ _ _) rfl rfl) rfl ?_
     refine w_pure want_none (y_move (v := .int _ _) rfl rfl) rfl ?_
     refine w_pure want_none (y_indexS Try.underlying37 Try.sizeOf3 rfl rfl rfl rfl (i := i + 1) (by omega) (by omega)) rfl ?_
     refine w_pure want_none (y_load1 Try.isAgg3 hs rfl rfl hx1) rfl ?_
     refine w_pure want_none (y_max2 rfl rfl rfl rfl) rfl ?_
     refine w_pure want_none (y_assign (v := .int _ _) rfl rfl) rfl ?_
     refine w_nil ?_
     refine q_blk_normal ?_
     refine q_then (hK22 _ _ ?_)
     refine w_region ?_
     refine w_pure want_none (y_move (v := .int _ _) rfl rfl) rfl ?_
     refine w_pure want_none (y_add rfl rfl rfl rfl (by omega) (by omega)) rfl ?_
     refine w_pure want_none (y_assign (v := .int _ _) rfl rfl) rfl ?_
     refine w_nil ?_
     refine q_then (hN14 _ _ (Nx.intro (l.length - (i + 1)) (by omega) (by repeat (first | exact agree_mix | refine agree_upd rfl ?_ | refine agree_updL rfl ?_ _ | refine agree_mixin rfl ?_)) ?_))
     exact ⟨i + 1, iv2 (by rw [hg]; rfl) (by omega), by omega, rfl, hs⟩
    ·
     try simp only [Bool.not_eq_true', Bool.not_eq_false', decide_eq_true_eq, decide_eq_false_iff_not, Int.not_lt, Int.not_le] at h21
     refine w_exit ?_
     refine q_then_exit ?_
     refine q_then_exit ?_
     refine q_blk_this ?_
     refine q_then (hK10 _ _ ?_)
     refine w_seq (fun K25 hK24 => ?_)
     refine w_region ?_
     refine w_pure want_none (y_move (v := .int _ _) rfl rfl) rfl ?_
     refine w_pure want_none (y_assign (v := .int _ _) rfl rfl) rfl ?_
     refine w_nil ?_
     refine q_then (hK24 _ _ ?_)
     refine w_ret ?_
     refine q_ret (l := [.tmp 2]) (vs := [_]) rfl ⟨⟨rfl, show _ = (.int _ _ : Value) from rfl⟩, trivial⟩ ?_
     have hil : i = l.length - 1 := by omega
     subst hil
     exact ⟨rfl, hs⟩

theorem few_skip {d : Nat → Bool} {n s : Nat} (h1 : (fewTo d n s).2 = true) (h2 : before (fewTo d n s).1 (listL s n) = true) : fewTo d n (s + 1) = fewTo d n s := by simp only [fewTo, fewStep]; rw [h1, h2]; rfl
theorem few_yes {d : Nat → Bool} {n s : Nat} (h1 : (fewTo d n s).2 = false ∨ before (fewTo d n s).1 (listL s n) = false) (h2 : d s = true) : fewTo d n (s + 1) = (listL s n, true) := by
  simp only [fewTo, fewStep]; rw [if_neg (by rcases h1 with h | h <;> simp [h]), if_pos h2]
theorem few_no {d : Nat → Bool} {n s : Nat} (h1 : (fewTo d n s).2 = false ∨ before (fewTo d n s).1 (listL s n) = false) (h2 : d s = false) : fewTo d n (s + 1) = fewTo d n s := by
  simp only [fewTo, fewStep]; rw [if_neg (by rcases h1 with h | h <;> simp [h]), if_neg (by simp [h2])]
theorem few_len (d : Nat → Bool) (n : Nat) : ∀ s, (fewTo d n s).1.length ≤ n
  | 0 => by simp [fewTo]
  | s + 1 => by have := few_len d n s; have := listL_le s n; simp only [fewTo, fewStep]; split <;> (try split) <;> assumption
theorem few_vals {v1 v2 : Value} {b1 b2 : Bool} {z1 z2 : Int} (h1 : v1 = v2) (h2 : b1 = b2) (h3 : z1 = z2) : [v1, Value.bool b1, Value.int .i64 z1] = [v2, Value.bool b2, Value.int .i64 z2] := by rw [h1, h2, h3]
theorem before_no {a b : List Int} (h1 : a.length ≤ b.length → ¬ (b.length : Int) > a.length) (h2 : a.length = b.length → less a b = false) : before a b = false := by
  unfold before
  rw [Bool.or_eq_false_iff, Bool.and_eq_false_iff]
  refine ⟨by simp; omega, ?_⟩
  by_cases e : a.length = b.length
  · exact .inr (h2 e)
  · left; simpa using e
theorem shl_lt64 {n : Nat} (h : n ≤ 6) : 1 ≤ 1 <<< n ∧ 1 <<< n ≤ 64 := (pow_le n h).2
theorem c85 {w0 w : World} {F : List (Nat × Obj)} (n : Nat) (hn : n ≤ 6) (fv : Value) (d : Nat → Bool) (hd : ∀ (b : Nat) (X : List (Nat × Obj)) (w : World), b < 1 <<< n → St w0 w (X ++ F) → FCon Try.prog fv [.int .i64 (b : Int)] w fun v w' => v = .bool (d b) ∧ ∃ Y, St w0 w' (Y ++ (X ++ F))) (hs : St w0 w F) :
  Con Try.prog 85 [.int .i64 (n : Int), fv] w fun v w' => ∃ B a c, v = .tuple #[.slice a (fewest d n).1.length c, .bool (fewest d n).2] ∧ Sl w0 B a 1 ((fewest d n).1.map fun x => [Value.int .i64 x]) ∧ St w0 w' (B ++ F) := by
  refine con_of_wc (n := 44) Try.func85 rfl rfl (Nat.le_of_ble_eq_true rfl) ?_
  have hsh := shl_lt64 hn
  refine w_seq (fun K2 hK1 => ?_)
  refine w_region ?_
  refine w_pure want_none (y_assign (v := _) rfl rfl) rfl ?_
  refine w_pure want_none (y_assign (v := _) rfl rfl) rfl ?_
  refine w_nil ?_
  refine q_then (hK1 _ _ ?_)
  refine w_seq (fun K4 hK3 => ?_)
  refine w_seq (fun K6 hK5 => ?_)
  refine w_region ?_
  refine w_pure want_none (y_move (v := .int _ _) rfl rfl) rfl ?_
  refine w_pure want_none (y_shl (x := 1) (y := n) rfl rfl rfl rfl rfl (by first | rfl | omega) (by first | omega | exact shr_lt (by omega)) (by first | omega | exact shr_lt (by omega))) rfl ?_
  refine w_pure want_none (y_move (v := _) rfl rfl) rfl ?_
  refine w_nil ?_
  refine q_then (hK5 _ _ ?_)
  refine w_block ?_
  refine w_loop [4, 5, 6, 7, 10, 11, 12, 13, 14, 15, 16, 17, 18, 19, 20, 21, 22, 23, 24, 25, 26, 27, 28, 29, 30, 31, 32, 33, 34, 35, 36, 37, 38, 39, 40, 41] [4, 5, 10] (fun k vs w => ∃ (s : Nat) (av : Option Addr) (cv : Nat) (B : List (Nat × Obj)), vs = [.slice av (fewTo d n s).1.length cv, .bool (fewTo d n s).2, .int .i64 s] ∧ s ≤ 1 <<< n ∧ k = (1 <<< n) - s ∧ Sl w0 B av 1 ((fewTo d n s).1.map fun x => [Value.int .i64 x]) ∧ St w0 w (B ++ F)) (1 <<< n) ?_ ?_
  ·
   exact ⟨0, _, _, [], rfl, by omega, by omega, Sl.nil _ _, hs⟩
  ·
   intro k vs μ w9 hI K8 hN7
   obtain ⟨s, av, cv, B, rfl, hba, rfl, hslv, hs⟩ := hI
   generalize hfd : (fewTo d n s).2 = fd
   refine w_seq (fun K11 hK10 => ?_)
   refine w_region ?_
   refine w_pure want_none (y_lss rfl rfl rfl rfl) rfl ?_
   refine w_nil ?_
   refine q_then (hK10 _ _ ?_)
   refine w_seq (fun K13 hK12 => ?_)
   refine w_cond rfl rfl (fun h14 => ?_) (fun h14 => ?_)
   ·
    try simp only [Bool.not_eq_true', Bool.not_eq_false', decide_eq_true_eq, decide_eq_false_iff_not, Int.not_lt, Int.not_le] at h14
    refine w_skip ?_
    refine q_then (hK12 _ _ ?_)
    refine w_seq (fun K16 hK15 => ?_)
    refine w_block ?_
    refine w_seq (fun K18 hK17 => ?_)
    refine w_region ?_
    refine w_pure want_none (y_move (v := .int _ _) rfl rfl) rfl ?_
    refine w_pure want_none (y_assign (v := .int _ _) rfl rfl) rfl ?_
    refine w_nil ?_
    refine q_then (hK17 _ _ ?_)
    refine w_seq (fun K20 hK19 => ?_)
    refine w_region ?_
    refine w_pure want_none (y_move (v := .int _ _) rfl rfl) rfl ?_
    refine w_pure want_none (y_move (v := .int _ _) rfl rfl) rfl ?_
    refine w_call want_none Try.call75 rfl rfl rfl rfl (c75 _ _ (by omega) (by omega) hs) ?_
    rintro _ w22 ⟨B1, hown1, hs23⟩
    replace hs23 := (show St _ _ (B1 ++ (B ++ (F))) from hs23)
    obtain ⟨a1, c1, rfl, hsl1, _, _⟩ := own_ints (w0 := w0) hown1
    have hle1 := listL_le s n
    have hle2 := few_len d n s
    refine w_pure want_none (y_assign (v := .slice _ _ _) rfl rfl) rfl ?_
    refine w_nil ?_
    refine q_then (hK19 _ _ ?_)
    refine w_seq (fun K25 hK24 => ?_)
    refine w_seq (fun K27 hK26 => ?_)
    refine w_region ?_
    refine w_pure want_none (y_move (v := .bool _) rfl rfl) rfl ?_
    refine w_pure want_none (y_move (v := .bool _) rfl rfl) rfl ?_
    refine w_split (fun h28 => ?_) (fun h28 => ?_)
    ·
     subst h28
     refine w_pure (want_yes rfl rfl rfl) (y_move (v := .slice _ _ _) rfl rfl) rfl ?_
     refine w_pure (want_yes rfl rfl rfl) (y_lenS Try.underlying37 rfl rfl) rfl ?_
     refine w_pure (want_yes rfl rfl rfl) (y_move (v := .slice _ _ _) rfl rfl) rfl ?_
     refine w_pure (want_yes rfl rfl rfl) (y_lenS Try.underlying37 rfl rfl) rfl ?_
     refine w_pure (want_yes rfl rfl rfl) (y_gtr rfl rfl rfl rfl) rfl ?_
     refine w_pure (want_yes rfl rfl rfl) (y_move (v := .bool _) rfl rfl) rfl ?_
     refine w_split (fun h29 => ?_) (fun h29 => ?_)
     ·
      try simp only [Bool.not_eq_true', Bool.not_eq_false', decide_eq_true_eq, decide_eq_false_iff_not, Int.not_lt, Int.not_le] at h29
      refine w_skipop rfl rfl rfl ?_
      refine w_skipop rfl rfl rfl ?_
      refine w_skipop rfl rfl rfl ?_
      refine w_skipop rfl rfl rfl ?_
      refine w_skipop rfl rfl rfl ?_
      refine w_skipop rfl rfl rfl ?_
      refine w_skipop' rfl rfl rfl ?_
      refine w_skipop' rfl rfl rfl ?_
      refine w_skipop' rfl rfl rfl ?_
      refine w_skipop' rfl rfl rfl ?_
      refine w_skipop rfl rfl rfl ?_
      refine w_pure (want_yes rfl rfl rfl) (y_pickT (v := _) rfl rfl rfl rfl) rfl ?_
      refine w_pure want_none (y_pickT (v := .bool _) rfl rfl rfl rfl) rfl ?_
      refine w_nil ?_
      refine q_then (hK26 _ _ ?_)
      refine w_condT rfl rfl ?_
      refine w_exit ?_
      refine q_then_exit ?_
      refine q_blk_this ?_
      refine q_then (hK15 _ _ ?_)
      refine w_region ?_
      refine w_pure want_none (y_add rfl rfl rfl rfl (by omega) (by omega)) rfl ?_
      refine w_pure want_none (y_move (v := .int _ _) rfl rfl) rfl ?_
      refine w_nil ?_
      refine q_then (hN7 _ _ (Nx.intro ((1 <<< n) - (s + 1)) (by omega) (by repeat (first | exact agree_mix | refine agree_upd rfl ?_ | refine agree_updL rfl ?_ _ | refine agree_mixin rfl ?_)) ?_))
      first
        | (have hq := few_skip hfd (by unfold before; simp; omega)
           exact ⟨s + 1, av, cv, B1 ++ B, few_vals (by rw [hq] <;> rfl) (by rw [hq, hfd] <;> rfl) rfl, by omega, rfl, by rw [hq]; exact hslv.app, (by rw [List.append_assoc]; exact hs23)⟩)
        | (have hq := few_skip hfd (by unfold before; rw [Bool.or_eq_true, Bool.and_eq_true]; exact .inr ⟨by simp; omega, by rw [← hz]; simp; omega⟩)
           exact ⟨s + 1, av, cv, B1 ++ B, few_vals (by rw [hq] <;> rfl) (by rw [hq, hfd] <;> rfl) rfl, by omega, rfl, by rw [hq]; exact hslv.app, (by rw [List.append_assoc]; exact hs23)⟩)
        | (have hq := few_yes (d := d) (n := n) (s := s) (by first | exact .inl hfd | exact .inr (before_no (by omega) (by omega)) | exact .inr (before_no (by omega) (fun e => by rw [← hz]; exact decide_eq_false (by omega)))) (by assumption)
           exact ⟨s + 1, a1, c1, B1 ++ B, few_vals (by rw [hq] <;> rfl) (by rw [hq] <;> rfl) rfl, by omega, rfl, by rw [hq]; exact hsl1.top, (by rw [List.append_assoc]; exact hs23.drop)⟩)
        | (have hq := few_no (d := d) (n := n) (s := s) (by first | exact .inl hfd | exact .inr (before_no (by omega) (by omega)) | exact .inr (before_no (by omega) (fun e => by rw [← hz]; exact decide_eq_false (by omega)))) (by assumption)
           exact ⟨s + 1, av, cv, B1 ++ B, few_vals (by rw [hq] <;> rfl) (by rw [hq, hfd] <;> rfl) rfl, by omega, rfl, by rw [hq]; exact hslv.app, (by rw [List.append_assoc]; exact hs23.drop)⟩)
     ·
      try simp only [Bool.not_eq_true', Bool.not_eq_false', decide_eq_true_eq, decide_eq_false_iff_not, Int.not_lt, Int.not_le] at h29
      refine w_pure (want_yes rfl rfl rfl) (y_move (v := .slice _ _ _) rfl rfl) rfl ?_
      refine w_pure (want_yes rfl rfl rfl) (y_lenS Try.underlying37 rfl rfl) rfl ?_
      refine w_pure (want_yes rfl rfl rfl) (y_move (v := .slice _ _ _) rfl rfl) rfl ?_
      refine w_pure (want_yes rfl rfl rfl) (y_lenS Try.underlying37 rfl rfl) rfl ?_
      refine w_pure (want_yes rfl rfl rfl) (y_eql rfl rfl rfl rfl) rfl ?_
      refine w_pure (want_yes rfl rfl rfl) (y_move (v := .bool _) rfl rfl) rfl ?_
      refine w_split (fun h30 => ?_) (fun h30 => ?_)
      ·
       try simp only [Bool.not_eq_true', Bool.not_eq_false', decide_eq_true_eq, decide_eq_false_iff_not, Int.not_lt, Int.not_le] at h30
       refine w_pure (want_yes rfl rfl rfl) (y_move (v := .slice _ _ _) rfl rfl) rfl ?_
       refine w_pure (want_yes rfl rfl rfl) (y_move (v := .slice _ _ _) rfl rfl) rfl ?_
       refine w_call (want_yes rfl rfl rfl) Try.call111 rfl rfl rfl rfl (c111 _ _ _ _ _ _ (by omega) (by omega) hsl1.top hslv.top.app hs23) ?_
       rintro _ w32 ⟨⟨z, rfl, hz⟩, hs33⟩
       refine w_pure (want_yes rfl rfl rfl) (y_gtr rfl rfl rfl rfl) rfl ?_
       refine w_pure (want_yes rfl rfl rfl) (y_pickT (v := .bool _) rfl rfl rfl rfl) rfl ?_
       refine w_pure (want_yes rfl rfl rfl) (y_pickF (v := .bool _) rfl rfl rfl rfl) rfl ?_
       refine w_pure want_none (y_pickT (v := .bool _) rfl rfl rfl rfl) rfl ?_
       refine w_nil ?_
       refine q_then (hK26 _ _ ?_)
       refine w_cond rfl rfl (fun h34 => ?_) (fun h34 => ?_)
       ·
        try simp only [Bool.not_eq_true', Bool.not_eq_false', decide_eq_true_eq, decide_eq_false_iff_not, Int.not_lt, Int.not_le] at h34
        refine w_exit ?_
        refine q_then_exit ?_
        refine q_blk_this ?_
        refine q_then (hK15 _ _ ?_)
        refine w_region ?_
        refine w_pure want_none (y_add rfl rfl rfl rfl (by omega) (by omega)) rfl ?_
        refine w_pure want_none (y_move (v := .int _ _) rfl rfl) rfl ?_
        refine w_nil ?_
        refine q_then (hN7 _ _ (Nx.intro ((1 <<< n) - (s + 1)) (by omega) (by repeat (first | exact agree_mix | refine agree_upd rfl ?_ | refine agree_updL rfl ?_ _ | refine agree_mixin rfl ?_)) ?_))
        first
          | (have hq := few_skip hfd (by unfold before; simp; omega)
             exact ⟨s + 1, av, cv, B1 ++ B, few_vals (by rw [hq] <;> rfl) (by rw [hq, hfd] <;> rfl) rfl, by omega, rfl, by rw [hq]; exact hslv.app, (by rw [List.append_assoc]; exact hs33)⟩)
          | (have hq := few_skip hfd (by unfold before; rw [Bool.or_eq_true, Bool.and_eq_true]; exact .inr ⟨by simp; omega, by rw [← hz]; simp; omega⟩)
             exact ⟨s + 1, av, cv, B1 ++ B, few_vals (by rw [hq] <;> rfl) (by rw [hq, hfd] <;> rfl) rfl, by omega, rfl, by rw [hq]; exact hslv.app, (by rw [List.append_assoc]; exact hs33)⟩)
          | (have hq := few_yes (d := d) (n := n) (s := s) (by first | exact .inl hfd | exact .inr (before_no (by omega) (by omega)) | exact .inr (before_no (by omega) (fun e => by rw [← hz]; exact decide_eq_false (by omega)))) (by assumption)
             exact ⟨s + 1, a1, c1, B1 ++ B, few_vals (by rw [hq] <;> rfl) (by rw [hq] <;> rfl) rfl, by omega, rfl, by rw [hq]; exact hsl1.top, (by rw [List.append_assoc]; exact hs33.drop)⟩)
          | (have hq := few_no (d := d) (n := n) (s := s) (by first | exact .inl hfd | exact .inr (before_no (by omega) (by omega)) | exact .inr (before_no (by omega) (fun e => by rw [← hz]; exact decide_eq_false (by omega)))) (by assumption)
             exact ⟨s + 1, av, cv, B1 ++ B, few_vals (by rw [hq] <;> rfl) (by rw [hq, hfd] <;> rfl) rfl, by omega, rfl, by rw [hq]; exact hslv.app, (by rw [List.append_assoc]; exact hs33.drop)⟩)
       ·
        try simp only [Bool.not_eq_true', Bool.not_eq_false', decide_eq_true_eq, decide_eq_false_iff_not, Int.not_lt, Int.not_le] at h34
        refine w_skip ?_
        refine q_then (hK24 _ _ ?_)
        refine w_seq (fun K36 hK35 => ?_)
        refine w_region ?_
        refine w_pure want_none (y_move (v := fv) rfl rfl) rfl ?_
        refine w_pure want_none (y_move (v := .int _ _) rfl rfl) rfl ?_
        refine w_callV want_none rfl rfl rfl rfl (hd s (B1 ++ B) _ (by omega) (St.cast (by simp only [List.append_assoc]) hs33)) ?_
        rintro _ w38 ⟨rfl, Y, hs39⟩
        replace hs39 := (show St _ _ (Y ++ ((B1 ++ B) ++ F)) from hs39)
        rw [List.append_assoc] at hs39
        refine w_nil ?_
        refine q_then (hK35 _ _ ?_)
        refine w_cond rfl rfl (fun h40 => ?_) (fun h40 => ?_)
        ·
         try simp only [Bool.not_eq_true', Bool.not_eq_false', decide_eq_true_eq, decide_eq_false_iff_not, Int.not_lt, Int.not_le] at h40
         refine w_region ?_
         refine w_pure want_none (y_move (v := .slice _ _ _) rfl rfl) rfl ?_
         refine w_pure want_none (y_assign (v := .slice _ _ _) rfl rfl) rfl ?_
         refine w_pure want_none (y_assign (v := _) rfl rfl) rfl ?_
         refine w_nil ?_
         refine q_blk_normal ?_
         refine q_then (hK15 _ _ ?_)
         refine w_region ?_
         refine w_pure want_none (y_add rfl rfl rfl rfl (by omega) (by omega)) rfl ?_
         refine w_pure want_none (y_move (v := .int _ _) rfl rfl) rfl ?_
         refine w_nil ?_
         refine q_then (hN7 _ _ (Nx.intro ((1 <<< n) - (s + 1)) (by omega) (by repeat (first | exact agree_mix | refine agree_upd rfl ?_ | refine agree_updL rfl ?_ _ | refine agree_mixin rfl ?_)) ?_))
         first
           | (have hq := few_skip hfd (by unfold before; simp; omega)
              exact ⟨s + 1, av, cv, B1 ++ B, few_vals (by rw [hq] <;> rfl) (by rw [hq, hfd] <;> rfl) rfl, by omega, rfl, by rw [hq]; exact hslv.app, (by rw [List.append_assoc]; exact hs39)⟩)
           | (have hq := few_skip hfd (by unfold before; rw [Bool.or_eq_true, Bool.and_eq_true]; exact .inr ⟨by simp; omega, by rw [← hz]; simp; omega⟩)
              exact ⟨s + 1, av, cv, B1 ++ B, few_vals (by rw [hq] <;> rfl) (by rw [hq, hfd] <;> rfl) rfl, by omega, rfl, by rw [hq]; exact hslv.app, (by rw [List.append_assoc]; exact hs39)⟩)
           | (have hq := few_yes (d := d) (n := n) (s := s) (by first | exact .inl hfd | exact .inr (before_no (by omega) (by omega)) | exact .inr (before_no (by omega) (fun e => by rw [← hz]; exact decide_eq_false (by omega)))) (by assumption)
              exact ⟨s + 1, a1, c1, B1 ++ B, few_vals (by rw [hq] <;> rfl) (by rw [hq] <;> rfl) rfl, by omega, rfl, by rw [hq]; exact hsl1.top, (by rw [List.append_assoc]; exact hs39.drop)⟩)
           | (have hq := few_no (d := d) (n := n) (s := s) (by first | exact .inl hfd | exact .inr (before_no (by omega) (by omega)) | exact .inr (before_no (by omega) (fun e => by rw [← hz]; exact decide_eq_false (by omega)))) (by assumption)
              exact ⟨s + 1, av, cv, B1 ++ B, few_vals (by rw [hq] <;> rfl) (by rw [hq, hfd] <;> rfl) rfl, by omega, rfl, by rw [hq]; exact hslv.app, (by rw [List.append_assoc]; exact hs39.drop)⟩)
        ·
         try simp only [Bool.not_eq_true', Bool.not_eq_false', decide_eq_true_eq, decide_eq_false_iff_not, Int.not_lt, Int.not_le] at h40
         refine w_skip ?_
         refine q_blk_normal ?_
         refine q_then (hK15 _ _ ?_)
         refine w_region ?_
         refine w_pure want_none (y_add rfl rfl rfl rfl (by omega) (by omega)) rfl ?_
         refine w_pure want_none (y_move (v := .int _ _) rfl rfl) rfl ?_
         refine w_nil ?_
         refine q_then (hN7 _ _ (Nx.intro ((1 <<< n) - (s + 1)) (by omega) (by repeat (first | exact agree_mix | refine agree_upd rfl ?_ | refine agree_updL rfl ?_ _ | refine agree_mixin rfl ?_)) ?_))
         first
           | (have hq := few_skip hfd (by unfold before; simp; omega)
              exact ⟨s + 1, av, cv, B1 ++ B, few_vals (by rw [hq] <;> rfl) (by rw [hq, hfd] <;> rfl) rfl, by omega, rfl, by rw [hq]; exact hslv.app, (by rw [List.append_assoc]; exact hs39)⟩)
           | (have hq := few_skip hfd (by unfold before; rw [Bool.or_eq_true, Bool.and_eq_true]; exact .inr ⟨by simp; omega, by rw [← hz]; simp; omega⟩)
              exact ⟨s + 1, av, cv, B1 ++ B, few_vals (by rw [hq] <;> rfl) (by rw [hq, hfd] <;> rfl) rfl, by omega, rfl, by rw [hq]; exact hslv.app, (by rw [List.append_assoc]; exact hs39)⟩)
           | (have hq := few_yes (d := d) (n := n) (s := s) (by first | exact .inl hfd | exact .inr (before_no (by omega) (by omega)) | exact .inr (before_no (by omega) (fun e => by rw [← hz]; exact decide_eq_false (by omega)))) (by assumption)
              exact ⟨s + 1, a1, c1, B1 ++ B, few_vals (by rw [hq] <;> rfl) (by rw [hq] <;> rfl) rfl, by omega, rfl, by rw [hq]; exact hsl1.top, (by rw [List.append_assoc]; exact hs39.drop)⟩)
           | (have hq := few_no (d := d) (n := n) (s := s) (by first | exact .inl hfd | exact .inr (before_no (by omega) (by omega)) | exact .inr (before_no (by omega) (fun e => by rw [← hz]; exact decide_eq_false (by omega)))) (by assumption)
              exact ⟨s + 1, av, cv, B1 ++ B, few_vals (by rw [hq] <;> rfl) (by rw [hq, hfd] <;> rfl) rfl, by omega, rfl, by rw [hq]; exact hslv.app, (by rw [List.append_assoc]; exact hs39.drop)⟩)
      ·
       try simp only [Bool.not_eq_true', Bool.not_eq_false', decide_eq_true_eq, decide_eq_false_iff_not, Int.not_lt, Int.not_le] at h30
       refine w_skipop rfl rfl rfl ?_
       refine w_skipop rfl rfl rfl ?_
       refine w_skipop rfl rfl rfl ?_
       refine w_skipop rfl rfl rfl ?_
       refine w_pure (want_yes rfl rfl rfl) (y_pickF (v := _) rfl rfl rfl rfl) rfl ?_
       refine w_pure (want_yes rfl rfl rfl) (y_pickF (v := .bool _) rfl rfl rfl rfl) rfl ?_
       refine w_pure want_none (y_pickT (v := .bool _) rfl rfl rfl rfl) rfl ?_
       refine w_nil ?_
       refine q_then (hK26 _ _ ?_)
       refine w_condF rfl rfl ?_
       refine w_skip ?_
       refine q_then (hK24 _ _ ?_)
       refine w_seq (fun K42 hK41 => ?_)
       refine w_region ?_
       refine w_pure want_none (y_move (v := fv) rfl rfl) rfl ?_
       refine w_pure want_none (y_move (v := .int _ _) rfl rfl) rfl ?_
       refine w_callV want_none rfl rfl rfl rfl (hd s (B1 ++ B) _ (by omega) (St.cast (by simp only [List.append_assoc]) hs23)) ?_
       rintro _ w44 ⟨rfl, Y, hs45⟩
       replace hs45 := (show St _ _ (Y ++ ((B1 ++ B) ++ F)) from hs45)
       rw [List.append_assoc] at hs45
       refine w_nil ?_
       refine q_then (hK41 _ _ ?_)
       refine w_cond rfl rfl (fun h46 => ?_) (fun h46 => ?_)
       ·
        try simp only [Bool.not_eq_true', Bool.not_eq_false', decide_eq_true_eq, decide_eq_false_iff_not, Int.not_lt, Int.not_le] at h46
        refine w_region ?_
        refine w_pure want_none (y_move (v := .slice _ _ _) rfl rfl) rfl ?_
        refine w_pure want_none (y_assign (v := .slice _ _ _) rfl rfl) rfl ?_
        refine w_pure want_none (y_assign (v := _) rfl rfl) rfl ?_
        refine w_nil ?_
        refine q_blk_normal ?_
        refine q_then (hK15 _ _ ?_)
        refine w_region ?_
        refine w_pure want_none (y_add rfl rfl rfl rfl (by omega) (by omega)) rfl ?_
        refine w_pure want_none (y_move (v := .int _ _) rfl rfl) rfl ?_
        refine w_nil ?_
        refine q_then (hN7 _ _ (Nx.intro ((1 <<< n) - (s + 1)) (by omega) (by repeat (first | exact agree_mix | refine agree_upd rfl ?_ | refine agree_updL rfl ?_ _ | refine agree_mixin rfl ?_)) ?_))
        first
          | (have hq := few_skip hfd (by unfold before; simp; omega)
             exact ⟨s + 1, av, cv, B1 ++ B, few_vals (by rw [hq] <;> rfl) (by rw [hq, hfd] <;> rfl) rfl, by omega, rfl, by rw [hq]; exact hslv.app, (by rw [List.append_assoc]; exact hs45)⟩)
          | (have hq := few_skip hfd (by unfold before; rw [Bool.or_eq_true, Bool.and_eq_true]; exact .inr ⟨by simp; omega, by rw [← hz]; simp; omega⟩)
             exact ⟨s + 1, av, cv, B1 ++ B, few_vals (by rw [hq] <;> rfl) (by rw [hq, hfd] <;> rfl) rfl, by omega, rfl, by rw [hq]; exact hslv.app, (by rw [List.append_assoc]; exact hs45)⟩)
          | (have hq := few_yes (d := d) (n := n) (s := s) (by first | exact .inl hfd | exact .inr (before_no (by omega) (by omega)) | exact .inr (before_no (by omega) (fun e => by rw [← hz]; exact decide_eq_false (by omega)))) (by assumption)
             exact ⟨s + 1, a1, c1, B1 ++ B, few_vals (by rw [hq] <;> rfl) (by rw [hq] <;> rfl) rfl, by omega, rfl, by rw [hq]; exact hsl1.top, (by rw [List.append_assoc]; exact hs45.drop)⟩)
          | (have hq := few_no (d := d) (n := n) (s := s) (by first | exact .inl hfd | exact .inr (before_no (by omega) (by omega)) | exact .inr (before_no (by omega) (fun e => by rw [← hz]; exact decide_eq_false (by omega)))) (by assumption)
             exact ⟨s + 1, av, cv, B1 ++ B, few_vals (by rw [hq] <;> rfl) (by rw [hq, hfd] <;> rfl) rfl, by omega, rfl, by rw [hq]; exact hslv.app, (by rw [List.append_assoc]; exact hs45.drop)⟩)
       ·
        try simp only [Bool.not_eq_true', Bool.not_eq_false', decide_eq_true_eq, decide_eq_false_iff_not, Int.not_lt, Int.not_le] at h46
        refine w_skip ?_
        refine q_blk_normal ?_
        refine q_then (hK15 _ _ ?_)
        refine w_region ?_
        refine w_pure want_none (y_add rfl rfl rfl rfl (by omega) (by omega)) rfl ?_
        refine w_pure want_none (y_move (v := .int _ _) rfl rfl) rfl ?_
        refine w_nil ?_
        refine q_then (hN7 _ _ (Nx.intro ((1 <<< n) - (s + 1)) (by omega) (by repeat (first | exact agree_mix | refine agree_upd rfl ?_ | refine agree_updL rfl ?_ _ | refine agree_mixin rfl ?_)) ?_))
        first
          | (have hq := few_skip hfd (by unfold before; simp; omega)
             exact ⟨s + 1, av, cv, B1 ++ B, few_vals (by rw [hq] <;> rfl) (by rw [hq, hfd] <;> rfl) rfl, by omega, rfl, by rw [hq]; exact hslv.app, (by rw [List.append_assoc]; exact hs45)⟩)
          | (have hq := few_skip hfd (by unfold before; rw [Bool.or_eq_true, Bool.and_eq_true]; exact .inr ⟨by simp; omega, by rw [← hz]; simp; omega⟩)
             exact ⟨s + 1, av, cv, B1 ++ B, few_vals (by rw [hq] <;> rfl) (by rw [hq, hfd] <;> rfl) rfl, by omega, rfl, by rw [hq]; exact hslv.app, (by rw [List.append_assoc]; exact hs45)⟩)
          | (have hq := few_yes (d := d) (n := n) (s := s) (by first | exact .inl hfd | exact .inr (before_no (by omega) (by omega)) | exact .inr (before_no (by omega) (fun e => by rw [← hz]; exact decide_eq_false (by omega)))) (by assumption)
             exact ⟨s + 1, a1, c1, B1 ++ B, few_vals (by rw [hq] <;> rfl) (by rw [hq] <;> rfl) rfl, by omega, rfl, by rw [hq]; exact hsl1.top, (by rw [List.append_assoc]; exact hs45.drop)⟩)
          | (have hq := few_no (d := d) (n := n) (s := s) (by first | exact .inl hfd | exact .inr (before_no (by omega) (by omega)) | exact .inr (before_no (by omega) (fun e => by rw [← hz]; exact decide_eq_false (by omega)))) (by assumption)
             exact ⟨s + 1, av, cv, B1 ++ B, few_vals (by rw [hq] <;> rfl) (by rw [hq, hfd] <;> rfl) rfl, by omega, rfl, by rw [hq]; exact hslv.app, (by rw [List.append_assoc]; exact hs45.drop)⟩)
    ·
     subst h28
     refine w_skipop rfl rfl rfl ?_
     refine w_skipop rfl rfl rfl ?_
     refine w_skipop rfl rfl rfl ?_
     refine w_skipop rfl rfl rfl ?_
     refine w_skipop rfl rfl rfl ?_
     refine w_skipop rfl rfl rfl ?_
     refine w_skipop' rfl rfl rfl ?_
     refine w_skipop' rfl rfl rfl ?_
     refine w_skipop' rfl rfl rfl ?_
     refine w_skipop' rfl rfl rfl ?_
     refine w_skipop' rfl rfl rfl ?_
     refine w_skipop' rfl rfl rfl ?_
     refine w_skipop' rfl rfl rfl ?_
     refine w_skipop' rfl rfl rfl ?_
     refine w_skipop' rfl rfl rfl ?_
     refine w_skipop' rfl rfl rfl ?_
     refine w_skipop' rfl rfl rfl ?_
     refine w_skipop rfl rfl rfl ?_
     refine w_pure want_none (y_pickF (v := _) rfl rfl rfl rfl) rfl ?_
     refine w_nil ?_
     refine q_then (hK26 _ _ ?_)
     refine w_condF rfl rfl ?_
     refine w_skip ?_
     refine q_then (hK24 _ _ ?_)
     refine w_seq (fun K48 hK47 => ?_)
     refine w_region ?_
     refine w_pure want_none (y_move (v := fv) rfl rfl) rfl ?_
     refine w_pure want_none (y_move (v := .int _ _) rfl rfl) rfl ?_
     refine w_callV want_none rfl rfl rfl rfl (hd s (B1 ++ B) _ (by omega) (St.cast (by simp only [List.append_assoc]) hs23)) ?_
     rintro _ w50 ⟨rfl, Y, hs51⟩
     replace hs51 := (show St _ _ (Y ++ ((B1 ++ B) ++ F)) from hs51)
     rw [List.append_assoc] at hs51
     refine w_nil ?_
     refine q_then (hK47 _ _ ?_)
     refine w_cond rfl rfl (fun h52 => ?_) (fun h52 => ?_)
     ·
      try simp only [Bool.not_eq_true', Bool.not_eq_false', decide_eq_true_eq, decide_eq_false_iff_not, Int.not_lt, Int.not_le] at h52
      refine w_region ?_
      refine w_pure want_none (y_move (v := .slice _ _ _) rfl rfl) rfl ?_
      refine w_pure want_none (y_assign (v := .slice _ _ _) rfl rfl) rfl ?_
      refine w_pure want_none (y_assign (v := _) rfl rfl) rfl ?_
      refine w_nil ?_
      refine q_blk_normal ?_
      refine q_then (hK15 _ _ ?_)
      refine w_region ?_
      refine w_pure want_none (y_add rfl rfl rfl rfl (by omega) (by omega)) rfl ?_
      refine w_pure want_none (y_move (v := .int _ _) rfl rfl) rfl ?_
      refine w_nil ?_
      refine q_then (hN7 _ _ (Nx.intro ((1 <<< n) - (s + 1)) (by omega) (by repeat (first | exact agree_mix | refine agree_upd rfl ?_ | refine agree_updL rfl ?_ _ | refine agree_mixin rfl ?_)) ?_))
      first
        | (have hq := few_skip hfd (by unfold before; simp; omega)
           exact ⟨s + 1, av, cv, B1 ++ B, few_vals (by rw [hq] <;> rfl) (by rw [hq, hfd] <;> rfl) rfl, by omega, rfl, by rw [hq]; exact hslv.app, (by rw [List.append_assoc]; exact hs51)⟩)
        | (have hq := few_skip hfd (by unfold before; rw [Bool.or_eq_true, Bool.and_eq_true]; exact .inr ⟨by simp; omega, by rw [← hz]; simp; omega⟩)
           exact ⟨s + 1, av, cv, B1 ++ B, few_vals (by rw [hq] <;> rfl) (by rw [hq, hfd] <;> rfl) rfl, by omega, rfl, by rw [hq]; exact hslv.app, (by rw [List.append_assoc]; exact hs51)⟩)
        | (have hq := few_yes (d := d) (n := n) (s := s) (by first | exact .inl hfd | exact .inr (before_no (by omega) (by omega)) | exact .inr (before_no (by omega) (fun e => by rw [← hz]; exact decide_eq_false (by omega)))) (by assumption)
           exact ⟨s + 1, a1, c1, B1 ++ B, few_vals (by rw [hq] <;> rfl) (by rw [hq] <;> rfl) rfl, by omega, rfl, by rw [hq]; exact hsl1.top, (by rw [List.append_assoc]; exact hs51.drop)⟩)
        | (have hq := few_no (d := d) (n := n) (s := s) (by first | exact .inl hfd | exact .inr (before_no (by omega) (by omega)) | exact .inr (before_no (by omega) (fun e => by rw [← hz]; exact decide_eq_false (by omega)))) (by assumption)
           exact ⟨s + 1, av, cv, B1 ++ B, few_vals (by rw [hq] <;> rfl) (by rw [hq, hfd] <;> rfl) rfl, by omega, rfl, by rw [hq]; exact hslv.app, (by rw [List.append_assoc]; exact hs51.drop)⟩)
     ·
      try simp only [Bool.not_eq_true', Bool.not_eq_false', decide_eq_true_eq, decide_eq_false_iff_not, Int.not_lt, Int.not_le] at h52
      refine w_skip ?_
      refine q_blk_normal ?_
      refine q_then (hK15 _ _ ?_)
      refine w_region ?_
      refine w_pure want_none (y_add rfl rfl rfl rfl (by omega) (by omega)) rfl ?_
      refine w_pure want_none (y_move (v := .int _ _) rfl rfl) rfl ?_
      refine w_nil ?_
      refine q_then (hN7 _ _ (Nx.intro ((1 <<< n) - (s + 1)) (by omega) (by repeat (first | exact agree_mix | refine agree_upd rfl ?_ | refine agree_updL rfl ?_ _ | refine agree_mixin rfl ?_)) ?_))
      first
        | (have hq := few_skip hfd (by unfold before; simp; omega)
           exact ⟨s + 1, av, cv, B1 ++ B, few_vals (by rw [hq] <;> rfl) (by rw [hq, hfd] <;> rfl) rfl, by omega, rfl, by rw [hq]; exact hslv.app, (by rw [List.append_assoc]; exact hs51)⟩)
        | (have hq := few_skip hfd (by unfold before; rw [Bool.or_eq_true, Bool.and_eq_true]; exact .inr ⟨by simp; omega, by rw [← hz]; simp; omega⟩)
           exact ⟨s + 1, av, cv, B1 ++ B, few_vals (by rw [hq] <;> rfl) (by rw [hq, hfd] <;> rfl) rfl, by omega, rfl, by rw [hq]; exact hslv.app, (by rw [List.append_assoc]; exact hs51)⟩)
        | (have hq := few_yes (d := d) (n := n) (s := s) (by first | exact .inl hfd | exact .inr (before_no (by omega) (by omega)) | exact .inr (before_no (by omega) (fun e => by rw [← hz]; exact decide_eq_false (by omega)))) (by assumption)
           exact ⟨s + 1, a1, c1, B1 ++ B, few_vals (by rw [hq] <;> rfl) (by rw [hq] <;> rfl) rfl, by omega, rfl, by rw [hq]; exact hsl1.top, (by rw [List.append_assoc]; exact hs51.drop)⟩)
        | (have hq := few_no (d := d) (n := n) (s := s) (by first | exact .inl hfd | exact .inr (before_no (by omega) (by omega)) | exact .inr (before_no (by omega) (fun e => by rw [← hz]; exact decide_eq_false (by omega)))) (by assumption)
           exact ⟨s + 1, av, cv, B1 ++ B, few_vals (by rw [hq] <;> rfl) (by rw [hq, hfd] <;> rfl) rfl, by omega, rfl, by rw [hq]; exact hslv.app, (by rw [List.append_assoc]; exact hs51.drop)⟩)
   ·
    try simp only [Bool.not_eq_true', Bool.not_eq_false', decide_eq_true_eq, decide_eq_false_iff_not, Int.not_lt, Int.not_le] at h14
    refine w_exit ?_
    refine q_then_exit ?_
    refine q_then_exit ?_
    refine q_blk_this ?_
    refine q_then (hK3 _ _ ?_)
    refine w_seq (fun K54 hK53 => ?_)
    refine w_region ?_
    refine w_pure want_none (y_move (v := .slice _ _ _) rfl rfl) rfl ?_
    refine w_pure want_none (y_move (v := .bool _) rfl rfl) rfl ?_
    refine w_pure want_none (y_assign (v := .slice _ _ _) rfl rfl) rfl ?_
    refine w_pure want_none (y_assign (v := .bool _) rfl rfl) rfl ?_
    refine w_nil ?_
    refine q_then (hK53 _ _ ?_)
    refine w_ret ?_
    refine q_ret (l := [.tmp 4, .tmp 5]) (vs := [_, _]) rfl ⟨⟨rfl, show _ = (.slice _ _ _ : Value) from rfl⟩, ⟨rfl, show _ = (.bool _ : Value) from rfl⟩, trivial⟩ ?_
    have hin : s = 1 <<< n := by omega
    subst hin
    exact ⟨B, av, cv, by rw [← hfd]; rfl, hslv, hs⟩

end Go.Proofs
/- Plain words of the hand layer: sums of hands, step by step. No conditions. -/
set_option linter.unusedSimpArgs false
set_option linter.unusedVariables false
namespace Go.Rt.Ha
theorem sums_a {l : Lot} {g : Nat} {h : List Int} {k : Nat} (e : gradesB l (bunchOf l k) (at_ h k) = 2 <<< g) : sumsTo l g h (k + 1) = ((sumsTo l g h k).1 + at_ h k, (sumsTo l g h k).2 + at_ h k) := by
  simp only [sumsTo]; rw [if_pos e]
theorem sums_b {l : Lot} {g : Nat} {h : List Int} {k : Nat} (e : ¬ gradesB l (bunchOf l k) (at_ h k) = 2 <<< g) (e2 : bit (gradesB l (bunchOf l k) (at_ h k)) (g + 1) = 1) : sumsTo l g h (k + 1) = ((sumsTo l g h k).1, (sumsTo l g h k).2 + at_ h k) := by
  simp only [sumsTo]; rw [if_neg e, if_pos e2]
theorem sums_c {l : Lot} {g : Nat} {h : List Int} {k : Nat} (e : ¬ gradesB l (bunchOf l k) (at_ h k) = 2 <<< g) (e2 : ¬ bit (gradesB l (bunchOf l k) (at_ h k)) (g + 1) = 1) : sumsTo l g h (k + 1) = sumsTo l g h k := by
  simp only [sumsTo]; rw [if_neg e, if_neg e2]
theorem sums_in {l : Lot} {g : Nat} {h : List Int} (hh : ∀ b, 0 ≤ at_ h b ∧ at_ h b ≤ 12) : ∀ k, 0 ≤ (sumsTo l g h k).1 ∧ (sumsTo l g h k).1 ≤ 12 * k ∧ 0 ≤ (sumsTo l g h k).2 ∧ (sumsTo l g h k).2 ≤ 12 * k
  | 0 => by simp [sumsTo]
  | k + 1 => by
    have ih := sums_in (l := l) (g := g) hh k
    have hx := hh k
    simp only [sumsTo]
    split
    · dsimp only; omega
    · split
      · (try dsimp only); omega
      · (try dsimp only); omega
theorem total_take {l : Lot} {g : Nat} {ws : List (List Int)} {i : Nat} (h : i < ws.length) : totalW l g (ws.take (i + 1)) = (min (totalW l g (ws.take i)).1 (sums l g ws[i]).1, max (totalW l g (ws.take i)).2 (sums l g ws[i]).2) := fold_take _ _ h
theorem someOf_snoc (h : List Int) (b : Int) : ∀ l, someOf h (l ++ [b]) = someOf h l + at_ h b.toNat
  | [] => by simp [someOf]
  | x :: l => by simp only [List.cons_append, someOf, someOf_snoc h b l]; omega
theorem someOf_in {h : List Int} (hh : ∀ b, 0 ≤ at_ h b ∧ at_ h b ≤ 12) : ∀ l, 0 ≤ someOf h l ∧ someOf h l ≤ 12 * l.length
  | [] => by simp [someOf]
  | x :: l => by
    have ih := someOf_in hh l
    have hx := hh x.toNat
    simp only [someOf, List.length_cons]; omega
theorem listL_in (b : Nat) : ∀ n, ∀ z ∈ listL b n, 0 ≤ z ∧ z < n
  | 0, z, hz => by simp [listL] at hz
  | n + 1, z, hz => by
    simp only [listL, List.mem_append] at hz
    rcases hz with hz | hz
    · have := listL_in b n z hz; omega
    · split at hz <;> simp at hz
      omega
theorem all_take {ws : List (List Int)} {q : List Int → Bool} {i : Nat} (hi : i < ws.length) (h : (ws.take i).all q = true) (hq : q ws[i] = true) : (ws.take (i + 1)).all q = true := by
  rw [List.take_succ_eq_append_getElem hi, List.all_append, h]; simp [hq]
theorem all_not {ws : List (List Int)} {q : List Int → Bool} {i : Nat} (hi : i < ws.length) (hq : q ws[i] = false) : ws.all q = false := by
  rw [List.all_eq_false]; exact ⟨_, List.getElem_mem hi, by simp [hq]⟩
/-! ### How often -/
def oftL (b : Nat) (ws : List (List Int)) : List Int := (List.range 13).map fun n : Nat => often b (n : Int) ws
theorem oft_len (b : Nat) (ws : List (List Int)) : (oftL b ws).length = 13 := by simp [oftL]
theorem often_in (b : Nat) (n : Int) (ws : List (List Int)) : 0 ≤ often b n ws ∧ often b n ws ≤ ws.length := by
  unfold often; have := List.length_filter_le (fun h => decide (at_ h b = n)) ws; omega
theorem oft_get {b : Nat} {ws : List (List Int)} {j : Nat} (hj : j < 13) : (oftL b ws).getD j 0 = often b (j : Int) ws := by simp [oftL, List.getD, hj]
theorem often_take {b : Nat} {n : Int} {ws : List (List Int)} {i : Nat} (h : i < ws.length) : often b n (ws.take (i + 1)) = often b n (ws.take i) + if at_ ws[i] b = n then 1 else 0 := by
  unfold often
  rw [List.take_succ_eq_append_getElem h, List.filter_append, List.length_append]
  by_cases e : at_ ws[i] b = n <;> simp [e]
theorem oft_take {b : Nat} {ws : List (List Int)} {i j : Nat} (h : i < ws.length) (hj : at_ ws[i] b = (j : Int)) (h13 : j < 13) : (oftL b (ws.take i)).set j ((oftL b (ws.take i)).getD j 0 + 1) = oftL b (ws.take (i + 1)) := by
  apply List.ext_getElem
  · simp [oftL]
  · intro q h1 h2
    rw [List.getElem_set]
    simp only [oftL, List.getElem_map, List.getElem_range]
    rw [often_take h, hj]
    by_cases e : j = q
    · subst e
      have := oft_get (b := b) (ws := ws.take i) h13
      unfold oftL at this
      simp only [if_true]; rw [this]
    · rw [if_neg e, if_neg (by omega)]; omega
theorem oft_zero (b : Nat) : oftL b [] = List.replicate 13 0 := rfl
theorem ways_max : (4 : Nat) ^ 6 = 4096 := by decide
theorem felt_len {bs : List Bunch} (h : ∀ b ∈ bs, b.hi + 1 - b.lo ≤ 4) : (felt bs).length ≤ 4 ^ bs.length := by
  induction bs with
  | nil => simp [felt]
  | cons b bs ih =>
    have ih := ih fun x hx => h x (.tail _ hx)
    have hb := h b (.head _)
    have hl : (spanL b.lo b.hi).length ≤ 4 := by
      have : ∀ n lo, (upto lo n).length = n := by intro n; induction n with
        | zero => intro lo; rfl
        | succ n ih => intro lo; simp [upto, ih]
      unfold spanL; rw [this]; omega
    have key : ∀ xs : List Int, (xs.flatMap fun n => (felt bs).map (n :: ·)).length = xs.length * (felt bs).length := by
      intro xs
      induction xs with
      | nil => simp
      | cons x xs ih => rw [List.flatMap_cons, List.length_append, ih, List.length_map, List.length_cons, Nat.succ_mul]; omega
    simp only [felt]
    rw [key, List.length_cons, Nat.pow_succ, Nat.mul_comm]
    exact Nat.mul_le_mul ih hl
theorem ways_len {l : Lot} (hok : l.Ok) (but : Nat) : (ways l but).length ≤ 4096 := by
  have h1 := List.length_filter_le (fun h => soFrom but h 0 l.counts) (felt l.bunches)
  have h2 := felt_len (bs := l.bunches) (fun b hb => by have := hok.bunch b hb; omega)
  have h3 : 4 ^ l.bunches.length ≤ 4 ^ 6 := Nat.pow_le_pow_right (by omega) hok.lb
  have h4 := ways_max
  unfold ways; omega
end Go.Rt.Ha
/- Walks of this seat, printed by gen.py over the engine: what each function returns, in whatever world. No conditions but those of each contract. -/
set_option linter.unusedVariables false
set_option linter.unusedSimpArgs false
set_option maxRecDepth 20000
namespace Go.Proofs
open Go.Rt Go.Rt.Ha
attribute [local irreducible] WL WC Con Yd At Ats Sl Agree DW
theorem Try_N_fb2 (x0 : Int) (w : World) : (Instr.build 34 [(0, .int .i64 x0)].toArray).run Try.prog w = .ok (.agg #[.int .i64 x0, .int .i64 0]) w := by kernel_rfl
theorem Try_N_fb3 (x0 : Int) (x1 : Int) (w : World) : (Instr.build 124 [(0, .int .i64 x0), (1, .int .i64 x1)].toArray).run Try.prog w = .ok (.agg #[.int .i64 x0, .int .i64 x1]) w := by kernel_rfl
theorem Try_N_fb4 (x0 : Int) (x1 : Int) (w : World) : (Instr.build 34 [(0, .int .i64 x0), (1, .int .i64 x1)].toArray).run Try.prog w = .ok (.agg #[.int .i64 x0, .int .i64 x1]) w := by kernel_rfl
theorem front6 {w0 w : World} {M Y R : List (Nat × Obj)} {a : Nat × Obj} (h : St w0 w (M ++ (Y ++ (a :: R)))) : St w0 w (a :: (M ++ (Y ++ R))) := h.perm ((List.Perm.append_left M (perm_mid Y [a] R)).trans (perm_mid M [a] (Y ++ R)))
theorem tot_perm {w0 w : World} {M F : List (Nat × Obj)} {b6 lb bb bn b4 b3 b2 : Nat × Obj} (h : St w0 w (b6 :: (M ++ (lb :: bb :: bn :: b4 :: b3 :: b2 :: F)))) : St w0 w (b4 :: (M ++ (b6 :: lb :: bb :: bn :: b3 :: b2 :: F))) := by
  have h1 : St w0 w (([b6] ++ M) ++ ([lb, bb, bn, b4] ++ (b3 :: b2 :: F))) := by simpa using h
  have h2 := h1.perm (List.Perm.append_left ([b6] ++ M) (show ([lb, bb, bn, b4] ++ (b3 :: b2 :: F)).Perm ([b4] ++ ([lb, bb, bn] ++ (b3 :: b2 :: F))) from perm_mid [lb, bb, bn] [b4] (b3 :: b2 :: F)))
  have h3 := h2.perm (perm_mid ([b6] ++ M) [b4] ([lb, bb, bn] ++ (b3 :: b2 :: F)))
  have h4 : St w0 w (b4 :: ([b6] ++ (M ++ (lb :: bb :: bn :: b3 :: b2 :: F)))) := by simpa using h3
  exact h4.perm (List.Perm.cons _ (perm_mid [b6] M (lb :: bb :: bn :: b3 :: b2 :: F)))
theorem lk_c {w0 w : World} {M L : List (Nat × Obj)} {a : Nat × Obj} {l : Lot} {p : At3} {but lb mm : Nat} (hs : St w0 w (M ++ (a :: L))) (h : LK w0 L l p but lb mm) : LK w0 (a :: L) l p but lb mm := h.cons
theorem iv3 {a b c d e f : Int} (h : a = b) (h2 : c = d) (h3 : e = f) : [Value.int .i64 a, Value.int .i64 c, Value.int .i64 e] = [Value.int .i64 b, Value.int .i64 d, Value.int .i64 f] := by rw [h, h2, h3]
theorem tot_cells {b4 : Nat} {M : List (Nat × Obj)} {x y x' y' : Int} (h2 : x = x') (h3 : y = y') : ((b4, blk 34 [.int .i64 x, .int .i64 y]) :: M : List (Nat × Obj)) = (b4, blk 34 [.int .i64 x', .int .i64 y']) :: M := by subst h2 h3; rfl
theorem two_shl {g : Nat} (h : g ≤ 4) : 2 <<< g < 1000 := by
  match g, h with
  | 0, _ => decide
  | 1, _ => decide
  | 2, _ => decide
  | 3, _ => decide
  | 4, _ => decide
theorem c26 {w0 w : World} {F : List (Nat × Obj)} (l : Lot) (p : At3) (hm : LIn w0 F l p) (g : Int) (hs : St w0 w F) :
  Con Try.prog 26 [.agg (l.cells p).toArray, .int .i64 g] w fun v w' => v = .tuple #[.agg #[.int .i64 (totalP l g).1.1, .int .i64 (totalP l g).1.2], .int .i64 (totalP l g).2] ∧ St w0 w' F := by
  refine con_of_wcM (n := 81) Try.func26 rfl rfl (Nat.le_of_ble_eq_true rfl) ?_
  have hlg0 := hm.lg
  refine w_seq (fun K2 hK1 => ?_)
  refine w_region ?_
  refine w_box (v := .agg #[.slice _ _ _, .slice _ _ _, .slice _ _ _]) (cs := [_, _, _]) want_none rfl rfl rfl hs (fun b3 w4 hs5 => ?_)
  refine w_box (v := .int _ _) (cs := [_]) want_none rfl rfl rfl hs5 (fun b6 w7 hs8 => ?_)
  refine w_alloc (cs := [_, _]) want_none Try.zeroValue34 rfl hs8 (fun b9 w10 hs11 => ?_)
  refine w_pure want_none (y_assign (v := _) rfl rfl) rfl ?_
  refine w_nil ?_
  refine q_then (hK1 _ _ ?_)
  refine w_seq (fun K13 hK12 => ?_)
  refine w_drawT (C := fun w => St w0 w _) [11] (.two [(0, 1), (1, 1), (2, 0), (3, 1), (4, 0)] 5 10 (.two [] 6 10 (.done [(7, 0), (8, 0), (9, 0), (10, 2), (11, 3), (12, 0)]) (.done [(6, 2), (7, 0), (8, 0), (9, 0), (11, 3), (12, 0)])) (.done [(5, 2), (6, 2), (7, 0), (8, 0), (9, 0), (11, 3), (12, 0)])) Try_mo (by kernel_rfl) hs11 (fun _ h => h.drew) (fun w14 hs15 => ?_)
  refine dt_two ?_
  refine d_take rfl want_none rfl hs15 (fun _ hq => (y_loadN (vs := [_, _, _]) Try.isAgg26 Try.sizeOf26 hq rfl rfl (ats_own (i := 2) (vs := [_, _, _]) rfl rfl))) ?_
  refine d_take rfl want_none rfl hs15 (fun _ hq => (y_load1 Try.isAgg3 hq rfl rfl (ats_own (i := 1) (vs := [_]) rfl rfl))) ?_
  refine d_any rfl want_none rfl (fun _ => (y_fieldAddr (o := 0) (i := 0) Try.underlying26 rfl Try.sizeOf22 rfl rfl rfl)) ?_
  refine d_take rfl want_none rfl hs15 (fun _ hq => (y_load1 Try.isAgg22 hq rfl rfl (ats_own (i := 2) (vs := [_]) rfl rfl))) ?_
  refine d_any rfl want_none rfl (fun _ => (y_lenS Try.underlying22 rfl rfl)) ?_
  refine d_two rfl rfl ?_ ?_
  ·
   refine w_call want_none Try.call70 rfl rfl rfl rfl (c70 _ _ hs15) ?_
   rintro _ w17 ⟨bb, bn, rfl, hs18⟩
   refine w_nil ?_
   refine qn ⟨hs18.tail.tail, ?_⟩
   refine dt_two ?_
   refine d_two rfl rfl ?_ ?_
   ·
    refine w_call want_none Try.call69 rfl rfl rfl rfl (c69 l p hm.cons.cons.cons.cons.cons (.func (.func 105) #[] #[.pointer (some ⟨bb, 0, none⟩), .pointer (some ⟨bn, 0, none⟩)]) (idxE g l.grades.length) (fun X w hs => fcon_fn Try.call105 (c105 g l.grades.length _ _ (by omega) (Ats.app (ats_own (i := 0) (vs := [_]) rfl rfl)) (Ats.app (ats_own (i := 1) (vs := [_]) rfl rfl)) hs)) hs18) ?_
    rintro _ w20 (⟨hee, rfl, hs21⟩ | ⟨hee, lb, mm, M, rfl, hM, hs21⟩)
    ·
     refine w_nil ?_
     refine qn ⟨hs21.tail.tail, ?_⟩
     refine dt_done ?_
     refine d_any rfl want_none rfl (fun _ => (y_move (v := .tuple _) rfl rfl)) ?_
     refine d_any rfl want_none rfl (fun _ => (y_extract (v := .pointer _) rfl rfl rfl)) ?_
     refine d_any rfl want_none rfl (fun _ => (y_extract (v := .int _ _) rfl rfl rfl)) ?_
     refine d_eff rfl ?_
     refine w_alloc (cs := [_]) want_none Try.zeroValue104 rfl hs21 (fun b22 w23 hs24 => ?_)
     refine w_nil ?_
     refine qn ⟨hs24.tail.tail.tail, ?_⟩
     refine d_late rfl ?_
     refine w_store (i := 0) (v := .pointer _) (vs := [_]) want_none Try.sizeOf104 rfl rfl rfl rfl rfl (by simp [Value.oneCell']) hs24 rfl (Nat.le_of_ble_eq_true rfl) (fun w25 hs26 => ?_)
     refine w_nil ?_
     refine qn ?_
     refine d_any rfl want_none rfl (fun _ => (y_assign (v := .int _ _) rfl rfl)) ?_
     refine d_nil ?_
     refine q_then (hK12 _ _ ?_)
     refine w_seq (fun K28 hK27 => ?_)
     refine w_seq (fun K30 hK29 => ?_)
     refine w_region ?_
     refine w_pure want_none (y_move (v := .int _ _) rfl rfl) rfl ?_
     refine w_pure want_none (y_neq rfl rfl rfl rfl) rfl ?_
     refine w_nil ?_
     refine q_then (hK29 _ _ ?_)
     refine w_cond rfl rfl (fun h31 => ?_) (fun h31 => ?_)
     ·
      try simp only [Bool.not_eq_true', Bool.not_eq_false', decide_eq_true_eq, decide_eq_false_iff_not, Int.not_lt, Int.not_le] at h31
      refine w_seq (fun K33 hK32 => ?_)
      refine w_region ?_
      refine w_pure want_none (y_loadN (vs := [_, _]) Try.isAgg34 Try.sizeOf34 hs26 rfl rfl (ats_own (i := 3) (vs := [_, _]) rfl rfl)) rfl ?_
      refine w_pure want_none (y_move (v := .int _ _) rfl rfl) rfl ?_
      refine w_store (i := 3) (v := .agg #[.int _ _, .int _ _]) (vs := [_, _]) want_none Try.sizeOf34 rfl rfl rfl rfl rfl (by simp [Value.oneCell']) hs26 rfl (Nat.le_of_ble_eq_true rfl) (fun w34 hs35 => ?_)
      refine w_pure want_none (y_assign (v := .int _ _) rfl rfl) rfl ?_
      refine w_nil ?_
      refine q_then (hK32 _ _ ?_)
      refine w_ret ?_
      refine q_then_ret ?_
      refine q_retM0 (l := [.cell 4 34, .tmp 5]) (vs := [_, _]) rfl ⟨⟨rfl, _, rfl, run_loadVarN (vs := [_, _]) Try.isAgg34 Try.sizeOf34 hs35 (ats_own (i := 3) (vs := [_, _]) rfl rfl)⟩, ⟨rfl, show _ = (.int _ _ : Value) from rfl⟩, trivial⟩ ?_
      exact ⟨by unfold totalP; rw [if_pos hee]; rfl, hs35.tail.tail.tail.tail.tail.tail⟩
     ·
      exfalso
      try simp only [Bool.not_eq_true', Bool.not_eq_false', decide_eq_true_eq, decide_eq_false_iff_not, Int.not_lt, Int.not_le] at h31
      first | exact hee h31 | exact h31 hee
    ·
     replace hs21 := (show St _ _ (M ++ (_ :: _ :: _ :: _ :: _ :: _ :: F)) from hs21)
     have hk := lk_new hs21 hm.cons.cons.cons.cons.cons (enterE_zero hee).1
     have hew := enterE_zero hee
     have hbt := hk.bt
     have hlg := hk.ok.lg
     have hlb := hk.ok.lb
     have hlc := hk.ok.lc
     refine w_nil ?_
     refine qn ⟨hs21.drop.tail.tail.tail, ?_⟩
     refine dt_done ?_
     refine d_any rfl want_none rfl (fun _ => (y_move (v := .tuple _) rfl rfl)) ?_
     refine d_any rfl want_none rfl (fun _ => (y_extract (v := .pointer _) rfl rfl rfl)) ?_
     refine d_any rfl want_none rfl (fun _ => (y_extract (v := .int _ _) rfl rfl rfl)) ?_
     refine d_eff rfl ?_
     refine w_alloc (cs := [_]) want_none Try.zeroValue104 rfl hs21 (fun b36 w37 hs38 => ?_)
     refine w_nil ?_
     refine qn ⟨hs38.tail.drop.tail.tail.tail, ?_⟩
     refine d_late rfl ?_
     refine w_store (i := 0) (v := .pointer _) (vs := [_]) want_none Try.sizeOf104 rfl rfl rfl rfl rfl (by simp [Value.oneCell']) hs38 rfl (Nat.le_of_ble_eq_true rfl) (fun w39 hs40 => ?_)
     refine w_nil ?_
     refine qn ?_
     refine d_any rfl want_none rfl (fun _ => (y_assign (v := .int _ _) rfl rfl)) ?_
     refine d_nil ?_
     refine q_then (hK12 _ _ ?_)
     refine w_seq (fun K42 hK41 => ?_)
     refine w_seq (fun K44 hK43 => ?_)
     refine w_region ?_
     refine w_pure want_none (y_move (v := .int _ _) rfl rfl) rfl ?_
     refine w_pure want_none (y_neq rfl rfl rfl rfl) rfl ?_
     refine w_nil ?_
     refine q_then (hK43 _ _ ?_)
     refine w_condF rfl rfl ?_
     refine w_skip ?_
     refine q_then (hK41 _ _ ?_)
     refine w_seq (fun K46 hK45 => ?_)
     have hs47 := tot_perm (show St _ _ (_ :: (M ++ (_ :: _ :: _ :: _ :: _ :: _ :: F))) from hs40)
     have hk := lk_c hs47.tail (lk_new (kq_own hs47.tail) hm.cons.cons.cons.cons (enterE_zero hee).1)
     have hgl := idxE_zero hew.2.1
     have hx6 : Ats w0 ((b36, blk 104 [.pointer (some ⟨lb, 0, none⟩)]) :: (lb, blk 145 [.slice p.ag l.grades.length p.cg, .slice p.ab l.bunches.length p.cb, .slice p.ac l.counts.length p.cc, .int .i64 ((0 : Nat) : Int), .map (some mm)]) :: (bb, blk 3 [.int .i64 (l.grades.length : Int)]) :: (bn, blk 3 [.int .i64 g]) :: (b6, blk 3 [.int .i64 g]) :: (b3, blk 26 (l.cells p)) :: F) b36 0 [.pointer (some ⟨lb, 0, none⟩)] := ats_own (i := 0) rfl rfl
     have hx3 : Ats w0 ((b36, blk 104 [.pointer (some ⟨lb, 0, none⟩)]) :: (lb, blk 145 [.slice p.ag l.grades.length p.cg, .slice p.ab l.bunches.length p.cb, .slice p.ac l.counts.length p.cc, .int .i64 ((0 : Nat) : Int), .map (some mm)]) :: (bb, blk 3 [.int .i64 (l.grades.length : Int)]) :: (bn, blk 3 [.int .i64 g]) :: (b6, blk 3 [.int .i64 g]) :: (b3, blk 26 (l.cells p)) :: F) b6 0 [.int .i64 g] := ats_own (i := 4) rfl rfl
     have hx2 : Ats w0 ((b36, blk 104 [.pointer (some ⟨lb, 0, none⟩)]) :: (lb, blk 145 [.slice p.ag l.grades.length p.cg, .slice p.ab l.bunches.length p.cb, .slice p.ac l.counts.length p.cc, .int .i64 ((0 : Nat) : Int), .map (some mm)]) :: (bb, blk 3 [.int .i64 (l.grades.length : Int)]) :: (bn, blk 3 [.int .i64 g]) :: (b6, blk 3 [.int .i64 g]) :: (b3, blk 26 (l.cells p)) :: F) b3 0 (l.cells p) := ats_own (i := 5) rfl rfl
     refine w_region ?_
     refine w_pure want_none (y_build (ps := [(0, _)]) (pv := [(0, .int _ _)]) rfl rfl (fun w => Try_N_fb2 _ w)) rfl ?_
     refine w_store (i := 0) (v := .agg #[.int _ _, .int _ _]) (vs := [_, _]) want_none Try.sizeOf34 rfl rfl rfl rfl rfl (by simp [Value.oneCell']) hs47 rfl (Nat.le_of_ble_eq_true rfl) (fun w48 hs49 => ?_)
     refine w_nil ?_
     refine q_then (hK45 _ _ ?_)
     refine w_seq (fun K51 hK50 => ?_)
     refine w_seq (fun K53 hK52 => ?_)
     refine w_region ?_
     refine w_pure want_none (y_load1 Try.isAgg104 hs49.tail.drop rfl rfl hx6) rfl ?_
     refine w_call want_none Try.call78 rfl rfl rfl rfl (c78 _ hs49) ?_
     rintro _ w55 ⟨bp, rfl, hs56⟩
     refine w_nil ?_
     refine q_then (hK52 _ _ ?_)
     refine w_block ?_
     refine w_range (_ :: M) (fun i Bx => ∃ M, Bx = (b9, blk 34 [.int .i64 (totalW l g.toNat ((Ha.ways l 0).take i)).1, .int .i64 (totalW l g.toNat ((Ha.ways l 0).take i)).2]) :: M ∧ Memo l mm M) (fun _ _ => False) rfl rfl rfl Try.call106 (ways_iter l p 0 lb mm hk.cons bp (ats_own (i := 0) (vs := [_]) rfl rfl)) hs56 (perm_mid [_] (_ :: M) _) ⟨M, rfl, hM⟩ ?_ ?_ ?_
     ·
      intro lp i hi Bx Xr Xr2 w58 hJ hs K hK57
      obtain ⟨M, rfl, hM⟩ := hJ
      have hi2 : i < (Ha.ways l 0).length := by simpa using hi
      rw [List.getElem_map, List.getElem_map]
      have hpl := padw_len hk.ok (List.mem_map.2 ⟨_, List.getElem_mem hi2, rfl⟩)
      have hat := pad6_at (Ha.ways l 0)[i]
      have hwi := way_in hk.ok (List.getElem_mem hi2)
      obtain ⟨h, hh⟩ : ∃ h, h = pad6 (Ha.ways l 0)[i] := ⟨_, rfl⟩
      rw [← hh] at hpl hat ⊢
      have hh6 := hpl.1
      replace hs := (show St _ _ (_ :: (M ++ (Xr ++ (_ :: _ :: _ :: _ :: _ :: _ :: _ :: F)))) from hs)
      refine w_region ?_
      refine w_alloc (cs := iv [0, 0, 0, 0, 0, 0]) want_none Try.zeroValue121 rfl hs (fun b59 w60 hs61 => ?_)
      refine w_storeI (i := 0) (l := _) want_none Try.sizeOf121 (by first | omega | rfl | (simp only [hh6, List.length_map, List.length_set, List.length_append, List.length_take, List.length_drop, List.length_replicate, List.length_cons, List.length_nil] <;> omega)) rfl rfl rfl rfl rfl hs61 rfl (by first | omega | rfl | (simp only [hh6, List.length_map, List.length_set, List.length_append, List.length_take, List.length_drop, List.length_replicate, List.length_cons, List.length_nil] <;> omega)) (fun w62 hs63 => ?_)
      refine w_nil ?_
      refine q_then (hK57 _ _ (_ :: _ :: M) hs63 (fun w64 hs65 => ?_))
      replace hs65 := (show St _ _ (_ :: _ :: M ++ (Xr2 ++ (_ :: _ :: _ :: _ :: _ :: _ :: _ :: F))) from hs65)
      refine w_block ?_
      refine w_seq (fun K67 hK66 => ?_)
      refine w_region ?_
      refine w_pure want_none (y_assign (v := _) rfl rfl) rfl ?_
      refine w_pure want_none (y_assign (v := _) rfl rfl) rfl ?_
      refine w_nil ?_
      refine q_then (hK66 _ _ ?_)
      refine w_seq (fun K69 hK68 => ?_)
      refine w_seq (fun K71 hK70 => ?_)
      refine w_region ?_
      refine w_pure want_none (y_fieldAddr (o := 1) (i := 1) Try.underlying26 rfl Try.sizeOf23 rfl rfl rfl) rfl ?_
      refine w_pure want_none (y_load1 Try.isAgg23 hs65.tail.tail.drop.drop.tail rfl rfl (show Ats _ _ _ _ [_] from Ats.part hx2 1 1)) rfl ?_
      refine w_pure want_none (y_lenS Try.underlying23 rfl rfl) rfl ?_
      refine w_pure want_none (y_move (v := _) rfl rfl) rfl ?_
      refine w_nil ?_
      refine q_then (hK70 _ _ ?_)
      refine w_block ?_
      refine w_loop [8, 9, 10, 11, 33, 34, 35, 36, 37, 38, 39, 40, 41, 42, 43, 44, 45, 46, 47, 48, 49, 50, 51, 52, 53, 54, 55, 56, 57, 58, 59, 60, 61, 62, 63, 64, 65, 66, 67, 68, 69, 70] [8, 9, 33] (fun k vs w => ∃ (q : Nat) (M : List (Nat × Obj)), vs = [.int .i64 (sumsTo l g.toNat ((Ha.ways l 0)[i]'hi2) q).1, .int .i64 (sumsTo l g.toNat ((Ha.ways l 0)[i]'hi2) q).2, .int .i64 q] ∧ q ≤ l.bunches.length ∧ k = l.bunches.length - q ∧ Memo l mm M ∧ St w0 w ((b59, blk 121 (iv h)) :: (b9, blk 34 [.int .i64 (totalW l g.toNat ((Ha.ways l 0).take i)).1, .int .i64 (totalW l g.toNat ((Ha.ways l 0).take i)).2]) :: (M ++ (Xr2 ++ ((bp, blk 104 [.pointer (some ⟨lb, 0, none⟩)]) :: (b36, blk 104 [.pointer (some ⟨lb, 0, none⟩)]) :: (lb, blk 145 [.slice p.ag l.grades.length p.cg, .slice p.ab l.bunches.length p.cb, .slice p.ac l.counts.length p.cc, .int .i64 ((0 : Nat) : Int), .map (some mm)]) :: (bb, blk 3 [.int .i64 (l.grades.length : Int)]) :: (bn, blk 3 [.int .i64 g]) :: (b6, blk 3 [.int .i64 g]) :: (b3, blk 26 (l.cells p)) :: F))))) (l.bunches.length) ?_ ?_
      ·
       exact ⟨0, M, rfl, by omega, by omega, hM, hs65⟩
      ·
       intro k vs μ w74 hI K73 hN72
       obtain ⟨q, M, rfl, hqa, rfl, hM, hs⟩ := hI
       refine w_seq (fun K76 hK75 => ?_)
       refine w_region ?_
       refine w_pure want_none (y_lss rfl rfl rfl rfl) rfl ?_
       refine w_nil ?_
       refine q_then (hK75 _ _ ?_)
       refine w_seq (fun K78 hK77 => ?_)
       refine w_cond rfl rfl (fun h79 => ?_) (fun h79 => ?_)
       ·
        try simp only [Bool.not_eq_true', Bool.not_eq_false', decide_eq_true_eq, decide_eq_false_iff_not, Int.not_lt, Int.not_le] at h79
        refine w_skip ?_
        refine q_then (hK77 _ _ ?_)
        refine w_seq (fun K81 hK80 => ?_)
        refine w_block ?_
        refine w_seq (fun K83 hK82 => ?_)
        refine w_region ?_
        refine w_pure want_none (y_move (v := .int _ _) rfl rfl) rfl ?_
        refine w_pure want_none (y_assign (v := .int _ _) rfl rfl) rfl ?_
        refine w_nil ?_
        refine q_then (hK82 _ _ ?_)
        refine w_seq (fun K85 hK84 => ?_)
        have hq2 : q < l.bunches.length := by omega
        have hgq := gradesB_in hk.ok hq2 (h.getD q 0)
        have hsm := sums_in (l := l) (g := g.toNat) hwi q
        have h2g := two_shl (g := g.toNat) (by omega)
        have hgq2 := hwi q
        rw [← hat q] at hgq2
        refine w_drawC (C := fun w => ∃ M, Memo l mm M ∧ St w0 w ((b59, blk 121 (iv h)) :: (b9, blk 34 [.int .i64 (totalW l g.toNat ((Ha.ways l 0).take i)).1, .int .i64 (totalW l g.toNat ((Ha.ways l 0).take i)).2]) :: (M ++ (Xr2 ++ ((bp, blk 104 [.pointer (some ⟨lb, 0, none⟩)]) :: (b36, blk 104 [.pointer (some ⟨lb, 0, none⟩)]) :: (lb, blk 145 [.slice p.ag l.grades.length p.cg, .slice p.ab l.bunches.length p.cb, .slice p.ac l.counts.length p.cc, .int .i64 ((0 : Nat) : Int), .map (some mm)]) :: (bb, blk 3 [.int .i64 (l.grades.length : Int)]) :: (bn, blk 3 [.int .i64 g]) :: (b6, blk 3 [.int .i64 g]) :: (b3, blk 26 (l.cells p)) :: F))))) [] [(0, 1), (1, 0), (2, 0), (3, 0), (4, 1), (5, 0), (6, 2), (7, 0)] Try_mo (by kernel_rfl) ⟨_, hM, hs⟩ (fun _ ⟨M, h1, h2⟩ => ⟨M, h1, h2.drew⟩) (fun w86 ⟨M, hM, hs87⟩ => ?_)
        refine d_takeC rfl want_none rfl ⟨_, hM, hs87⟩ (fun _ ⟨M, hM, hq⟩ => (y_load1 Try.isAgg104 hq.tail.tail.drop.drop.tail rfl rfl hx6)) ?_
        refine d_any rfl want_none rfl (fun _ => (y_move (v := .int _ _) rfl rfl)) ?_
        refine d_any rfl want_none rfl (fun _ => (y_move (v := .int _ _) rfl rfl)) ?_
        refine d_any rfl want_none rfl (fun _ => (y_indexA Try.underlying121 Try.sizeOf3 rfl rfl rfl rfl (i := q) (by first | rfl | omega) (by omega))) ?_
        refine d_takeC rfl want_none rfl ⟨_, hM, hs87⟩ (fun _ ⟨M, hM, hq⟩ => (y_load1 Try.isAgg3 hq rfl rfl (ats_ints (i := 0) (j := q) rfl (by first | omega | rfl | (simp only [hh6, List.length_map, List.length_set, List.length_append, List.length_take, List.length_drop, List.length_replicate, List.length_cons, List.length_nil] <;> omega))))) ?_
        refine d_any rfl want_none rfl (fun _ => (y_build (ps := [(0, _), (1, _)]) (pv := [(0, .int _ _), (1, .int _ _)]) rfl rfl (fun w => Try_N_fb3 _ _ w))) ?_
        refine d_eff rfl ?_
        refine w_call want_none Try.call79 rfl rfl rfl rfl (grades_con (X := _ :: _ :: []) (F := Xr2 ++ ((bp, blk 104 [.pointer (some ⟨lb, 0, none⟩)]) :: (b36, blk 104 [.pointer (some ⟨lb, 0, none⟩)]) :: (lb, blk 145 [.slice p.ag l.grades.length p.cg, .slice p.ab l.bunches.length p.cb, .slice p.ac l.counts.length p.cc, .int .i64 ((0 : Nat) : Int), .map (some mm)]) :: (bb, blk 3 [.int .i64 (l.grades.length : Int)]) :: (bn, blk 3 [.int .i64 g]) :: (b6, blk 3 [.int .i64 g]) :: (b3, blk 26 (l.cells p)) :: F)) l p 0 lb mm hk.cons.app q hq2 (h.getD q 0) hM hs87) ?_
        rintro _ w89 ⟨rfl, M2, hM2, hs90⟩
        replace hs90 := (show St _ _ (_ :: _ :: M2 ++ (Xr2 ++ (_ :: _ :: _ :: _ :: _ :: _ :: _ :: F))) from hs90)
        refine w_nil ?_
        refine qn ⟨⟨_, hM2, hs90⟩, ?_⟩
        refine d_any rfl want_none rfl (fun _ => (y_assign (v := .int _ _) rfl rfl)) ?_
        refine d_nil ?_
        refine q_then (hK84 _ _ ?_)
        refine w_block ?_
        refine w_seq (fun K92 hK91 => ?_)
        refine w_region ?_
        refine w_pure want_none (y_move (v := .int _ _) rfl rfl) rfl ?_
        refine w_pure want_none (y_load1 Try.isAgg3 hs90.tail.tail.drop.drop.tail rfl rfl hx3) rfl ?_
        refine w_pure want_none (y_shl (x := 2) (y := g.toNat) rfl rfl rfl rfl rfl (by first | rfl | omega) (by first | omega | exact shr_lt (by omega)) (by first | omega | exact shr_lt (by omega))) rfl ?_
        refine w_pure want_none (y_eql rfl rfl rfl rfl) rfl ?_
        refine w_pure want_none (y_assign (v := .bool _) rfl rfl) rfl ?_
        refine w_nil ?_
        refine q_then (hK91 _ _ ?_)
        refine w_cond rfl rfl (fun h93 => ?_) (fun h93 => ?_)
        ·
         try simp only [Bool.not_eq_true', Bool.not_eq_false', decide_eq_true_eq, decide_eq_false_iff_not, Int.not_lt, Int.not_le] at h93
         refine w_seq (fun K95 hK94 => ?_)
         refine w_region ?_
         refine w_pure want_none (y_move (v := .int _ _) rfl rfl) rfl ?_
         refine w_pure want_none (y_move (v := .int _ _) rfl rfl) rfl ?_
         refine w_pure want_none (y_indexA Try.underlying121 Try.sizeOf3 rfl rfl rfl rfl (i := q) (by first | rfl | omega) (by omega)) rfl ?_
         refine w_pure want_none (y_load1 Try.isAgg3 hs90 rfl rfl (ats_ints (i := 0) (j := q) rfl (by first | omega | rfl | (simp only [hh6, List.length_map, List.length_set, List.length_append, List.length_take, List.length_drop, List.length_replicate, List.length_cons, List.length_nil] <;> omega)))) rfl ?_
         refine w_pure want_none (y_add rfl rfl rfl rfl (by omega) (by omega)) rfl ?_
         refine w_pure want_none (y_assign (v := .int _ _) rfl rfl) rfl ?_
         refine w_nil ?_
         refine q_then (hK94 _ _ ?_)
         refine w_region ?_
         refine w_pure want_none (y_move (v := .int _ _) rfl rfl) rfl ?_
         refine w_pure want_none (y_move (v := .int _ _) rfl rfl) rfl ?_
         refine w_pure want_none (y_indexA Try.underlying121 Try.sizeOf3 rfl rfl rfl rfl (i := q) (by first | rfl | omega) (by omega)) rfl ?_
         refine w_pure want_none (y_load1 Try.isAgg3 hs90 rfl rfl (ats_ints (i := 0) (j := q) rfl (by first | omega | rfl | (simp only [hh6, List.length_map, List.length_set, List.length_append, List.length_take, List.length_drop, List.length_replicate, List.length_cons, List.length_nil] <;> omega)))) rfl ?_
         refine w_pure want_none (y_add rfl rfl rfl rfl (by omega) (by omega)) rfl ?_
         refine w_pure want_none (y_assign (v := .int _ _) rfl rfl) rfl ?_
         refine w_nil ?_
         refine q_blk_normal ?_
         refine q_blk_normal ?_
         refine q_then (hK80 _ _ ?_)
         refine w_region ?_
         refine w_pure want_none (y_add rfl rfl rfl rfl (by omega) (by omega)) rfl ?_
         refine w_pure want_none (y_move (v := .int _ _) rfl rfl) rfl ?_
         refine w_nil ?_
         refine q_then (hN72 _ _ (Nx.intro (l.bunches.length - (q + 1)) (by omega) (by repeat (first | exact agree_mix | refine agree_upd rfl ?_ | refine agree_updL rfl ?_ _ | refine agree_mixin rfl ?_)) ?_))
         first
           | (have hq := sums_a (l := l) (g := g.toNat) (h := ((Ha.ways l 0)[i]'hi2)) (k := q) (by rw [← hat q]; omega)
              rw [← hat q] at hq
              exact ⟨q + 1, M2, iv3 (by rw [hq]) (by rw [hq]) rfl, by omega, rfl, hM2, hs90⟩)
           | (have hq := sums_b (l := l) (g := g.toNat) (h := ((Ha.ways l 0)[i]'hi2)) (k := q) (by rw [← hat q]; omega) (by rw [← hat q]; omega)
              rw [← hat q] at hq
              exact ⟨q + 1, M2, iv3 (by rw [hq]) (by rw [hq]) rfl, by omega, rfl, hM2, hs90⟩)
           | (have hq := sums_c (l := l) (g := g.toNat) (h := ((Ha.ways l 0)[i]'hi2)) (k := q) (by rw [← hat q]; omega) (by rw [← hat q]; omega)
              exact ⟨q + 1, M2, iv3 (by rw [hq]) (by rw [hq]) rfl, by omega, rfl, hM2, hs90⟩)
        ·
         try simp only [Bool.not_eq_true', Bool.not_eq_false', decide_eq_true_eq, decide_eq_false_iff_not, Int.not_lt, Int.not_le] at h93
         refine w_seq (fun K97 hK96 => ?_)
         refine w_region ?_
         refine w_pure want_none (y_move (v := .int _ _) rfl rfl) rfl ?_
         refine w_pure want_none (y_load1 Try.isAgg3 hs90.tail.tail.drop.drop.tail rfl rfl hx3) rfl ?_
         refine w_pure want_none (y_add rfl rfl rfl rfl (by omega) (by omega)) rfl ?_
         refine w_pure want_none (y_shr (x := (gradesB l (bunchOf l q) (h.getD q 0))) (y := g.toNat + 1) rfl rfl rfl rfl (by first | rfl | omega) (by first | rfl | omega) (by first | omega | exact shr_lt (by omega))) rfl ?_
         refine w_pure want_none (show Yd _ _ _ _ (.int .i64 ((bit (gradesB l (bunchOf l q) (h.getD q 0)) (g.toNat + 1) : Nat) : Int)) from (y_and (x := _) (y := 1) rfl rfl rfl rfl rfl rfl (by first | omega | exact shr_lt (by omega)) (by first | omega | exact shr_lt (by omega)))) rfl ?_
         refine w_pure want_none (y_eql rfl rfl rfl rfl) rfl ?_
         refine w_pure want_none (y_assign (v := .bool _) rfl rfl) rfl ?_
         refine w_nil ?_
         refine q_then (hK96 _ _ ?_)
         refine w_cond rfl rfl (fun h98 => ?_) (fun h98 => ?_)
         ·
          try simp only [Bool.not_eq_true', Bool.not_eq_false', decide_eq_true_eq, decide_eq_false_iff_not, Int.not_lt, Int.not_le] at h98
          refine w_region ?_
          refine w_pure want_none (y_move (v := .int _ _) rfl rfl) rfl ?_
          refine w_pure want_none (y_move (v := .int _ _) rfl rfl) rfl ?_
          refine w_pure want_none (y_indexA Try.underlying121 Try.sizeOf3 rfl rfl rfl rfl (i := q) (by first | rfl | omega) (by omega)) rfl ?_
          refine w_pure want_none (y_load1 Try.isAgg3 hs90 rfl rfl (ats_ints (i := 0) (j := q) rfl (by first | omega | rfl | (simp only [hh6, List.length_map, List.length_set, List.length_append, List.length_take, List.length_drop, List.length_replicate, List.length_cons, List.length_nil] <;> omega)))) rfl ?_
          refine w_pure want_none (y_add rfl rfl rfl rfl (by omega) (by omega)) rfl ?_
          refine w_pure want_none (y_assign (v := .int _ _) rfl rfl) rfl ?_
          refine w_nil ?_
          refine q_blk_normal ?_
          refine q_blk_normal ?_
          refine q_then (hK80 _ _ ?_)
          refine w_region ?_
          refine w_pure want_none (y_add rfl rfl rfl rfl (by omega) (by omega)) rfl ?_
          refine w_pure want_none (y_move (v := .int _ _) rfl rfl) rfl ?_
          refine w_nil ?_
          refine q_then (hN72 _ _ (Nx.intro (l.bunches.length - (q + 1)) (by omega) (by repeat (first | exact agree_mix | refine agree_upd rfl ?_ | refine agree_updL rfl ?_ _ | refine agree_mixin rfl ?_)) ?_))
          first
            | (have hq := sums_a (l := l) (g := g.toNat) (h := ((Ha.ways l 0)[i]'hi2)) (k := q) (by rw [← hat q]; omega)
               rw [← hat q] at hq
               exact ⟨q + 1, M2, iv3 (by rw [hq]) (by rw [hq]) rfl, by omega, rfl, hM2, hs90⟩)
            | (have hq := sums_b (l := l) (g := g.toNat) (h := ((Ha.ways l 0)[i]'hi2)) (k := q) (by rw [← hat q]; omega) (by rw [← hat q]; omega)
               rw [← hat q] at hq
               exact ⟨q + 1, M2, iv3 (by rw [hq]) (by rw [hq]) rfl, by omega, rfl, hM2, hs90⟩)
            | (have hq := sums_c (l := l) (g := g.toNat) (h := ((Ha.ways l 0)[i]'hi2)) (k := q) (by rw [← hat q]; omega) (by rw [← hat q]; omega)
               exact ⟨q + 1, M2, iv3 (by rw [hq]) (by rw [hq]) rfl, by omega, rfl, hM2, hs90⟩)
         ·
          try simp only [Bool.not_eq_true', Bool.not_eq_false', decide_eq_true_eq, decide_eq_false_iff_not, Int.not_lt, Int.not_le] at h98
          refine w_skip ?_
          refine q_blk_normal ?_
          refine q_blk_normal ?_
          refine q_then (hK80 _ _ ?_)
          refine w_region ?_
          refine w_pure want_none (y_add rfl rfl rfl rfl (by omega) (by omega)) rfl ?_
          refine w_pure want_none (y_move (v := .int _ _) rfl rfl) rfl ?_
          refine w_nil ?_
          refine q_then (hN72 _ _ (Nx.intro (l.bunches.length - (q + 1)) (by omega) (by repeat (first | exact agree_mix | refine agree_upd rfl ?_ | refine agree_updL rfl ?_ _ | refine agree_mixin rfl ?_)) ?_))
          first
            | (have hq := sums_a (l := l) (g := g.toNat) (h := ((Ha.ways l 0)[i]'hi2)) (k := q) (by rw [← hat q]; omega)
               rw [← hat q] at hq
               exact ⟨q + 1, M2, iv3 (by rw [hq]) (by rw [hq]) rfl, by omega, rfl, hM2, hs90⟩)
            | (have hq := sums_b (l := l) (g := g.toNat) (h := ((Ha.ways l 0)[i]'hi2)) (k := q) (by rw [← hat q]; omega) (by rw [← hat q]; omega)
               rw [← hat q] at hq
               exact ⟨q + 1, M2, iv3 (by rw [hq]) (by rw [hq]) rfl, by omega, rfl, hM2, hs90⟩)
            | (have hq := sums_c (l := l) (g := g.toNat) (h := ((Ha.ways l 0)[i]'hi2)) (k := q) (by rw [← hat q]; omega) (by rw [← hat q]; omega)
               exact ⟨q + 1, M2, iv3 (by rw [hq]) (by rw [hq]) rfl, by omega, rfl, hM2, hs90⟩)
       ·
        try simp only [Bool.not_eq_true', Bool.not_eq_false', decide_eq_true_eq, decide_eq_false_iff_not, Int.not_lt, Int.not_le] at h79
        refine w_exit ?_
        refine q_then_exit ?_
        refine q_then_exit ?_
        refine q_blk_this ?_
        refine q_then (hK68 _ _ ?_)
        refine w_region ?_
        refine w_pure want_none (y_fieldAddr (o := 0) (i := 0) Try.underlying34 rfl Try.sizeOf3 rfl rfl rfl) rfl ?_
        refine w_pure want_none (y_load1 Try.isAgg3 hs rfl rfl (ats_own (i := 1) (vs := [_]) rfl rfl)) rfl ?_
        refine w_pure want_none (y_move (v := .int _ _) rfl rfl) rfl ?_
        refine w_pure want_none (y_min2 rfl rfl rfl rfl) rfl ?_
        refine w_pure want_none (y_fieldAddr (o := 1) (i := 1) Try.underlying34 rfl Try.sizeOf3 rfl rfl rfl) rfl ?_
        refine w_pure want_none (y_load1 Try.isAgg3 hs rfl rfl (ats_own (i := 1) (vs := [_]) rfl rfl)) rfl ?_
        refine w_pure want_none (y_move (v := .int _ _) rfl rfl) rfl ?_
        refine w_pure want_none (y_max2 rfl rfl rfl rfl) rfl ?_
        refine w_pure want_none (y_build (ps := [(0, _), (1, _)]) (pv := [(0, .int _ _), (1, .int _ _)]) rfl rfl (fun w => Try_N_fb4 _ _ w)) rfl ?_
        refine w_store (i := 1) (v := .agg #[.int _ _, .int _ _]) (vs := [_, _]) want_none Try.sizeOf34 rfl rfl rfl rfl rfl (by simp [Value.oneCell']) hs rfl (Nat.le_of_ble_eq_true rfl) (fun w99 hs100 => ?_)
        refine w_nil ?_
        refine q_blk_normal ?_
        refine rd_normal (_ :: M) hs100.tail ?_
        have hqn : q = l.bunches.length := by omega
        subst hqn
        exact ⟨M, tot_cells (by rw [total_take hi2]; rfl) (by rw [total_take hi2]; rfl), hM⟩
     ·
      intro bd Bx w101 hJ hs
      obtain ⟨M, rfl, hM⟩ := hJ
      rw [List.length_map, List.length_map, List.take_length] at hs
      replace hs := (show St _ _ (_ :: _ :: (M ++ (_ :: _ :: _ :: _ :: _ :: _ :: _ :: F))) from hs)
      refine q_blk_normal ?_
      refine q_then (hK50 _ _ ?_)
      refine w_seq (fun K103 hK102 => ?_)
      refine w_region ?_
      refine w_pure want_none (y_loadN (vs := [_, _]) Try.isAgg34 Try.sizeOf34 hs rfl rfl (ats_own (i := 1) (vs := [_, _]) rfl rfl)) rfl ?_
      refine w_store (i := 1) (v := .agg #[.int _ _, .int _ _]) (vs := [_, _]) want_none Try.sizeOf34 rfl rfl rfl rfl rfl (by simp [Value.oneCell']) hs rfl (Nat.le_of_ble_eq_true rfl) (fun w104 hs105 => ?_)
      refine w_pure want_none (y_assign (v := _) rfl rfl) rfl ?_
      refine w_nil ?_
      refine q_then (hK102 _ _ ?_)
      refine w_ret ?_
      refine q_retM (i := 0) (l := [.cell 4 34, .tmp 5]) (vs := [_, _]) hs105 rfl rfl (fun w106 hs107 => ⟨⟨⟨rfl, _, rfl, run_loadVarN (vs := [_, _]) Try.isAgg34 Try.sizeOf34 hs107 (ats_own (i := 1) (vs := [_, _]) rfl rfl)⟩, ⟨rfl, show _ = (.int _ _ : Value) from rfl⟩, trivial⟩, ?_⟩)
      exact ⟨by unfold totalP; rw [if_neg (by simp [hee])]; rfl, hs107.tail.tail.drop.tail.tail.tail.tail.tail.tail.tail⟩
     ·
      intro _ _ _ _ hJ
      exact hJ.elim
   ·
    refine w_alloc (cs := [_]) want_none Try.zeroValue104 rfl hs18 (fun b108 w109 hs110 => ?_)
    refine w_nil ?_
    refine qn ⟨hs110.tail.tail.tail, ?_⟩
    refine dt_done ?_
    refine d_eff rfl ?_
    refine w_call want_none Try.call69 rfl rfl rfl rfl (c69 l p hm.cons.cons.cons.cons.cons.cons (.func (.func 105) #[] #[.pointer (some ⟨bb, 0, none⟩), .pointer (some ⟨bn, 0, none⟩)]) (idxE g l.grades.length) (fun X w hs => fcon_fn Try.call105 (c105 g l.grades.length _ _ (by omega) (Ats.app (ats_own (i := 1) (vs := [_]) rfl rfl)) (Ats.app (ats_own (i := 2) (vs := [_]) rfl rfl)) hs)) hs110) ?_
    rintro _ w112 (⟨hee, rfl, hs113⟩ | ⟨hee, lb, mm, M, rfl, hM, hs113⟩)
    ·
     refine w_nil ?_
     refine qn ⟨hs113.tail.tail.tail, ?_⟩
     refine d_any rfl want_none rfl (fun _ => (y_move (v := .tuple _) rfl rfl)) ?_
     refine d_any rfl want_none rfl (fun _ => (y_extract (v := .pointer _) rfl rfl rfl)) ?_
     refine d_any rfl want_none rfl (fun _ => (y_extract (v := .int _ _) rfl rfl rfl)) ?_
     refine d_late rfl ?_
     refine w_store (i := 0) (v := .pointer _) (vs := [_]) want_none Try.sizeOf104 rfl rfl rfl rfl rfl (by simp [Value.oneCell']) hs113 rfl (Nat.le_of_ble_eq_true rfl) (fun w114 hs115 => ?_)
     refine w_nil ?_
     refine qn ?_
     refine d_any rfl want_none rfl (fun _ => (y_assign (v := .int _ _) rfl rfl)) ?_
     refine d_nil ?_
     refine q_then (hK12 _ _ ?_)
     refine w_seq (fun K117 hK116 => ?_)
     refine w_seq (fun K119 hK118 => ?_)
     refine w_region ?_
     refine w_pure want_none (y_move (v := .int _ _) rfl rfl) rfl ?_
     refine w_pure want_none (y_neq rfl rfl rfl rfl) rfl ?_
     refine w_nil ?_
     refine q_then (hK118 _ _ ?_)
     refine w_cond rfl rfl (fun h120 => ?_) (fun h120 => ?_)
     ·
      try simp only [Bool.not_eq_true', Bool.not_eq_false', decide_eq_true_eq, decide_eq_false_iff_not, Int.not_lt, Int.not_le] at h120
      refine w_seq (fun K122 hK121 => ?_)
      refine w_region ?_
      refine w_pure want_none (y_loadN (vs := [_, _]) Try.isAgg34 Try.sizeOf34 hs115 rfl rfl (ats_own (i := 3) (vs := [_, _]) rfl rfl)) rfl ?_
      refine w_pure want_none (y_move (v := .int _ _) rfl rfl) rfl ?_
      refine w_store (i := 3) (v := .agg #[.int _ _, .int _ _]) (vs := [_, _]) want_none Try.sizeOf34 rfl rfl rfl rfl rfl (by simp [Value.oneCell']) hs115 rfl (Nat.le_of_ble_eq_true rfl) (fun w123 hs124 => ?_)
      refine w_pure want_none (y_assign (v := .int _ _) rfl rfl) rfl ?_
      refine w_nil ?_
      refine q_then (hK121 _ _ ?_)
      refine w_ret ?_
      refine q_then_ret ?_
      refine q_retM0 (l := [.cell 4 34, .tmp 5]) (vs := [_, _]) rfl ⟨⟨rfl, _, rfl, run_loadVarN (vs := [_, _]) Try.isAgg34 Try.sizeOf34 hs124 (ats_own (i := 3) (vs := [_, _]) rfl rfl)⟩, ⟨rfl, show _ = (.int _ _ : Value) from rfl⟩, trivial⟩ ?_
      exact ⟨by unfold totalP; rw [if_pos hee]; rfl, hs124.tail.tail.tail.tail.tail.tail⟩
     ·
      exfalso
      try simp only [Bool.not_eq_true', Bool.not_eq_false', decide_eq_true_eq, decide_eq_false_iff_not, Int.not_lt, Int.not_le] at h120
      first | exact hee h120 | exact h120 hee
    ·
     replace hs113 := (show St _ _ (M ++ (_ :: _ :: _ :: _ :: _ :: _ :: _ :: F)) from hs113)
     have hk := lk_new hs113 hm.cons.cons.cons.cons.cons.cons (enterE_zero hee).1
     have hew := enterE_zero hee
     have hbt := hk.bt
     have hlg := hk.ok.lg
     have hlb := hk.ok.lb
     have hlc := hk.ok.lc
     refine w_nil ?_
     refine qn ⟨hs113.drop.tail.tail.tail.tail, ?_⟩
     refine d_any rfl want_none rfl (fun _ => (y_move (v := .tuple _) rfl rfl)) ?_
     refine d_any rfl want_none rfl (fun _ => (y_extract (v := .pointer _) rfl rfl rfl)) ?_
     refine d_any rfl want_none rfl (fun _ => (y_extract (v := .int _ _) rfl rfl rfl)) ?_
     have hs125 := front6 (M := M) (Y := [_]) (show St _ _ (M ++ ([_] ++ (_ :: _ :: _ :: _ :: _ :: _ :: F))) from hs113)
     replace hs125 := (show St _ _ (_ :: (M ++ (_ :: _ :: _ :: _ :: _ :: _ :: F))) from hs125)
     refine d_late rfl ?_
     refine w_store (i := 0) (v := .pointer _) (vs := [_]) want_none Try.sizeOf104 rfl rfl rfl rfl rfl (by simp [Value.oneCell']) hs125 rfl (Nat.le_of_ble_eq_true rfl) (fun w126 hs127 => ?_)
     refine w_nil ?_
     refine qn ?_
     refine d_any rfl want_none rfl (fun _ => (y_assign (v := .int _ _) rfl rfl)) ?_
     refine d_nil ?_
     refine q_then (hK12 _ _ ?_)
     refine w_seq (fun K129 hK128 => ?_)
     refine w_seq (fun K131 hK130 => ?_)
     refine w_region ?_
     refine w_pure want_none (y_move (v := .int _ _) rfl rfl) rfl ?_
     refine w_pure want_none (y_neq rfl rfl rfl rfl) rfl ?_
     refine w_nil ?_
     refine q_then (hK130 _ _ ?_)
     refine w_condF rfl rfl ?_
     refine w_skip ?_
     refine q_then (hK128 _ _ ?_)
     refine w_seq (fun K133 hK132 => ?_)
     have hs134 := tot_perm (show St _ _ (_ :: (M ++ (_ :: _ :: _ :: _ :: _ :: _ :: F))) from hs127)
     have hk := lk_c hs134.tail (lk_new (kq_own hs134.tail) hm.cons.cons.cons.cons (enterE_zero hee).1)
     have hgl := idxE_zero hew.2.1
     have hx6 : Ats w0 ((b108, blk 104 [.pointer (some ⟨lb, 0, none⟩)]) :: (lb, blk 145 [.slice p.ag l.grades.length p.cg, .slice p.ab l.bunches.length p.cb, .slice p.ac l.counts.length p.cc, .int .i64 ((0 : Nat) : Int), .map (some mm)]) :: (bb, blk 3 [.int .i64 (l.grades.length : Int)]) :: (bn, blk 3 [.int .i64 g]) :: (b6, blk 3 [.int .i64 g]) :: (b3, blk 26 (l.cells p)) :: F) b108 0 [.pointer (some ⟨lb, 0, none⟩)] := ats_own (i := 0) rfl rfl
     have hx3 : Ats w0 ((b108, blk 104 [.pointer (some ⟨lb, 0, none⟩)]) :: (lb, blk 145 [.slice p.ag l.grades.length p.cg, .slice p.ab l.bunches.length p.cb, .slice p.ac l.counts.length p.cc, .int .i64 ((0 : Nat) : Int), .map (some mm)]) :: (bb, blk 3 [.int .i64 (l.grades.length : Int)]) :: (bn, blk 3 [.int .i64 g]) :: (b6, blk 3 [.int .i64 g]) :: (b3, blk 26 (l.cells p)) :: F) b6 0 [.int .i64 g] := ats_own (i := 4) rfl rfl
     have hx2 : Ats w0 ((b108, blk 104 [.pointer (some ⟨lb, 0, none⟩)]) :: (lb, blk 145 [.slice p.ag l.grades.length p.cg, .slice p.ab l.bunches.length p.cb, .slice p.ac l.counts.length p.cc, .int .i64 ((0 : Nat) : Int), .map (some mm)]) :: (bb, blk 3 [.int .i64 (l.grades.length : Int)]) :: (bn, blk 3 [.int .i64 g]) :: (b6, blk 3 [.int .i64 g]) :: (b3, blk 26 (l.cells p)) :: F) b3 0 (l.cells p) := ats_own (i := 5) rfl rfl
     refine w_region ?_
     refine w_pure want_none (y_build (ps := [(0, _)]) (pv := [(0, .int _ _)]) rfl rfl (fun w => Try_N_fb2 _ w)) rfl ?_
     refine w_store (i := 0) (v := .agg #[.int _ _, .int _ _]) (vs := [_, _]) want_none Try.sizeOf34 rfl rfl rfl rfl rfl (by simp [Value.oneCell']) hs134 rfl (Nat.le_of_ble_eq_true rfl) (fun w135 hs136 => ?_)
     refine w_nil ?_
     refine q_then (hK132 _ _ ?_)
     refine w_seq (fun K138 hK137 => ?_)
     refine w_seq (fun K140 hK139 => ?_)
     refine w_region ?_
     refine w_pure want_none (y_load1 Try.isAgg104 hs136.tail.drop rfl rfl hx6) rfl ?_
     refine w_call want_none Try.call78 rfl rfl rfl rfl (c78 _ hs136) ?_
     rintro _ w142 ⟨bp, rfl, hs143⟩
     refine w_nil ?_
     refine q_then (hK139 _ _ ?_)
     refine w_block ?_
     refine w_range (_ :: M) (fun i Bx => ∃ M, Bx = (b9, blk 34 [.int .i64 (totalW l g.toNat ((Ha.ways l 0).take i)).1, .int .i64 (totalW l g.toNat ((Ha.ways l 0).take i)).2]) :: M ∧ Memo l mm M) (fun _ _ => False) rfl rfl rfl Try.call106 (ways_iter l p 0 lb mm hk.cons bp (ats_own (i := 0) (vs := [_]) rfl rfl)) hs143 (perm_mid [_] (_ :: M) _) ⟨M, rfl, hM⟩ ?_ ?_ ?_
     ·
      intro lp i hi Bx Xr Xr2 w145 hJ hs K hK144
      obtain ⟨M, rfl, hM⟩ := hJ
      have hi2 : i < (Ha.ways l 0).length := by simpa using hi
      rw [List.getElem_map, List.getElem_map]
      have hpl := padw_len hk.ok (List.mem_map.2 ⟨_, List.getElem_mem hi2, rfl⟩)
      have hat := pad6_at (Ha.ways l 0)[i]
      have hwi := way_in hk.ok (List.getElem_mem hi2)
      obtain ⟨h, hh⟩ : ∃ h, h = pad6 (Ha.ways l 0)[i] := ⟨_, rfl⟩
      rw [← hh] at hpl hat ⊢
      have hh6 := hpl.1
      replace hs := (show St _ _ (_ :: (M ++ (Xr ++ (_ :: _ :: _ :: _ :: _ :: _ :: _ :: F)))) from hs)
      refine w_region ?_
      refine w_alloc (cs := iv [0, 0, 0, 0, 0, 0]) want_none Try.zeroValue121 rfl hs (fun b146 w147 hs148 => ?_)
      refine w_storeI (i := 0) (l := _) want_none Try.sizeOf121 (by first | omega | rfl | (simp only [hh6, List.length_map, List.length_set, List.length_append, List.length_take, List.length_drop, List.length_replicate, List.length_cons, List.length_nil] <;> omega)) rfl rfl rfl rfl rfl hs148 rfl (by first | omega | rfl | (simp only [hh6, List.length_map, List.length_set, List.length_append, List.length_take, List.length_drop, List.length_replicate, List.length_cons, List.length_nil] <;> omega)) (fun w149 hs150 => ?_)
      refine w_nil ?_
      refine q_then (hK144 _ _ (_ :: _ :: M) hs150 (fun w151 hs152 => ?_))
      replace hs152 := (show St _ _ (_ :: _ :: M ++ (Xr2 ++ (_ :: _ :: _ :: _ :: _ :: _ :: _ :: F))) from hs152)
      refine w_block ?_
      refine w_seq (fun K154 hK153 => ?_)
      refine w_region ?_
      refine w_pure want_none (y_assign (v := _) rfl rfl) rfl ?_
      refine w_pure want_none (y_assign (v := _) rfl rfl) rfl ?_
      refine w_nil ?_
      refine q_then (hK153 _ _ ?_)
      refine w_seq (fun K156 hK155 => ?_)
      refine w_seq (fun K158 hK157 => ?_)
      refine w_region ?_
      refine w_pure want_none (y_fieldAddr (o := 1) (i := 1) Try.underlying26 rfl Try.sizeOf23 rfl rfl rfl) rfl ?_
      refine w_pure want_none (y_load1 Try.isAgg23 hs152.tail.tail.drop.drop.tail rfl rfl (show Ats _ _ _ _ [_] from Ats.part hx2 1 1)) rfl ?_
      refine w_pure want_none (y_lenS Try.underlying23 rfl rfl) rfl ?_
      refine w_pure want_none (y_move (v := _) rfl rfl) rfl ?_
      refine w_nil ?_
      refine q_then (hK157 _ _ ?_)
      refine w_block ?_
      refine w_loop [8, 9, 10, 11, 33, 34, 35, 36, 37, 38, 39, 40, 41, 42, 43, 44, 45, 46, 47, 48, 49, 50, 51, 52, 53, 54, 55, 56, 57, 58, 59, 60, 61, 62, 63, 64, 65, 66, 67, 68, 69, 70] [8, 9, 33] (fun k vs w => ∃ (q : Nat) (M : List (Nat × Obj)), vs = [.int .i64 (sumsTo l g.toNat ((Ha.ways l 0)[i]'hi2) q).1, .int .i64 (sumsTo l g.toNat ((Ha.ways l 0)[i]'hi2) q).2, .int .i64 q] ∧ q ≤ l.bunches.length ∧ k = l.bunches.length - q ∧ Memo l mm M ∧ St w0 w ((b146, blk 121 (iv h)) :: (b9, blk 34 [.int .i64 (totalW l g.toNat ((Ha.ways l 0).take i)).1, .int .i64 (totalW l g.toNat ((Ha.ways l 0).take i)).2]) :: (M ++ (Xr2 ++ ((bp, blk 104 [.pointer (some ⟨lb, 0, none⟩)]) :: (b108, blk 104 [.pointer (some ⟨lb, 0, none⟩)]) :: (lb, blk 145 [.slice p.ag l.grades.length p.cg, .slice p.ab l.bunches.length p.cb, .slice p.ac l.counts.length p.cc, .int .i64 ((0 : Nat) : Int), .map (some mm)]) :: (bb, blk 3 [.int .i64 (l.grades.length : Int)]) :: (bn, blk 3 [.int .i64 g]) :: (b6, blk 3 [.int .i64 g]) :: (b3, blk 26 (l.cells p)) :: F))))) (l.bunches.length) ?_ ?_
      ·
       exact ⟨0, M, rfl, by omega, by omega, hM, hs152⟩
      ·
       intro k vs μ w161 hI K160 hN159
       obtain ⟨q, M, rfl, hqa, rfl, hM, hs⟩ := hI
       refine w_seq (fun K163 hK162 => ?_)
       refine w_region ?_
       refine w_pure want_none (y_lss rfl rfl rfl rfl) rfl ?_
       refine w_nil ?_
       refine q_then (hK162 _ _ ?_)
       refine w_seq (fun K165 hK164 => ?_)
       refine w_cond rfl rfl (fun h166 => ?_) (fun h166 => ?_)
       ·
        try simp only [Bool.not_eq_true', Bool.not_eq_false', decide_eq_true_eq, decide_eq_false_iff_not, Int.not_lt, Int.not_le] at h166
        refine w_skip ?_
        refine q_then (hK164 _ _ ?_)
        refine w_seq (fun K168 hK167 => ?_)
        refine w_block ?_
        refine w_seq (fun K170 hK169 => ?_)
        refine w_region ?_
        refine w_pure want_none (y_move (v := .int _ _) rfl rfl) rfl ?_
        refine w_pure want_none (y_assign (v := .int _ _) rfl rfl) rfl ?_
        refine w_nil ?_
        refine q_then (hK169 _ _ ?_)
        refine w_seq (fun K172 hK171 => ?_)
        have hq2 : q < l.bunches.length := by omega
        have hgq := gradesB_in hk.ok hq2 (h.getD q 0)
        have hsm := sums_in (l := l) (g := g.toNat) hwi q
        have h2g := two_shl (g := g.toNat) (by omega)
        have hgq2 := hwi q
        rw [← hat q] at hgq2
        refine w_drawC (C := fun w => ∃ M, Memo l mm M ∧ St w0 w ((b146, blk 121 (iv h)) :: (b9, blk 34 [.int .i64 (totalW l g.toNat ((Ha.ways l 0).take i)).1, .int .i64 (totalW l g.toNat ((Ha.ways l 0).take i)).2]) :: (M ++ (Xr2 ++ ((bp, blk 104 [.pointer (some ⟨lb, 0, none⟩)]) :: (b108, blk 104 [.pointer (some ⟨lb, 0, none⟩)]) :: (lb, blk 145 [.slice p.ag l.grades.length p.cg, .slice p.ab l.bunches.length p.cb, .slice p.ac l.counts.length p.cc, .int .i64 ((0 : Nat) : Int), .map (some mm)]) :: (bb, blk 3 [.int .i64 (l.grades.length : Int)]) :: (bn, blk 3 [.int .i64 g]) :: (b6, blk 3 [.int .i64 g]) :: (b3, blk 26 (l.cells p)) :: F))))) [] [(0, 1), (1, 0), (2, 0), (3, 0), (4, 1), (5, 0), (6, 2), (7, 0)] Try_mo (by kernel_rfl) ⟨_, hM, hs⟩ (fun _ ⟨M, h1, h2⟩ => ⟨M, h1, h2.drew⟩) (fun w173 ⟨M, hM, hs174⟩ => ?_)
        refine d_takeC rfl want_none rfl ⟨_, hM, hs174⟩ (fun _ ⟨M, hM, hq⟩ => (y_load1 Try.isAgg104 hq.tail.tail.drop.drop.tail rfl rfl hx6)) ?_
        refine d_any rfl want_none rfl (fun _ => (y_move (v := .int _ _) rfl rfl)) ?_
        refine d_any rfl want_none rfl (fun _ => (y_move (v := .int _ _) rfl rfl)) ?_
        refine d_any rfl want_none rfl (fun _ => (y_indexA Try.underlying121 Try.sizeOf3 rfl rfl rfl rfl (i := q) (by first | rfl | omega) (by omega))) ?_
        refine d_takeC rfl want_none rfl ⟨_, hM, hs174⟩ (fun _ ⟨M, hM, hq⟩ => (y_load1 Try.isAgg3 hq rfl rfl (ats_ints (i := 0) (j := q) rfl (by first | omega | rfl | (simp only [hh6, List.length_map, List.length_set, List.length_append, List.length_take, List.length_drop, List.length_replicate, List.length_cons, List.length_nil] <;> omega))))) ?_
        refine d_any rfl want_none rfl (fun _ => (y_build (ps := [(0, _), (1, _)]) (pv := [(0, .int _ _), (1, .int _ _)]) rfl rfl (fun w => Try_N_fb3 _ _ w))) ?_
        refine d_eff rfl ?_
        refine w_call want_none Try.call79 rfl rfl rfl rfl (grades_con (X := _ :: _ :: []) (F := Xr2 ++ ((bp, blk 104 [.pointer (some ⟨lb, 0, none⟩)]) :: (b108, blk 104 [.pointer (some ⟨lb, 0, none⟩)]) :: (lb, blk 145 [.slice p.ag l.grades.length p.cg, .slice p.ab l.bunches.length p.cb, .slice p.ac l.counts.length p.cc, .int .i64 ((0 : Nat) : Int), .map (some mm)]) :: (bb, blk 3 [.int .i64 (l.grades.length : Int)]) :: (bn, blk 3 [.int .i64 g]) :: (b6, blk 3 [.int .i64 g]) :: (b3, blk 26 (l.cells p)) :: F)) l p 0 lb mm hk.cons.app q hq2 (h.getD q 0) hM hs174) ?_
        rintro _ w176 ⟨rfl, M2, hM2, hs177⟩
        replace hs177 := (show St _ _ (_ :: _ :: M2 ++ (Xr2 ++ (_ :: _ :: _ :: _ :: _ :: _ :: _ :: F))) from hs177)
        refine w_nil ?_
        refine qn ⟨⟨_, hM2, hs177⟩, ?_⟩
        refine d_any rfl want_none rfl (fun _ => (y_assign (v := .int _ _) rfl rfl)) ?_
        refine d_nil ?_
        refine q_then (hK171 _ _ ?_)
        refine w_block ?_
        refine w_seq (fun K179 hK178 => ?_)
        refine w_region ?_
        refine w_pure want_none (y_move (v := .int _ _) rfl rfl) rfl ?_
        refine w_pure want_none (y_load1 Try.isAgg3 hs177.tail.tail.drop.drop.tail rfl rfl hx3) rfl ?_
        refine w_pure want_none (y_shl (x := 2) (y := g.toNat) rfl rfl rfl rfl rfl (by first | rfl | omega) (by first | omega | exact shr_lt (by omega)) (by first | omega | exact shr_lt (by omega))) rfl ?_
        refine w_pure want_none (y_eql rfl rfl rfl rfl) rfl ?_
        refine w_pure want_none (y_assign (v := .bool _) rfl rfl) rfl ?_
        refine w_nil ?_
        refine q_then (hK178 _ _ ?_)
        refine w_cond rfl rfl (fun h180 => ?_) (fun h180 => ?_)
        ·
         try simp only [Bool.not_eq_true', Bool.not_eq_false', decide_eq_true_eq, decide_eq_false_iff_not, Int.not_lt, Int.not_le] at h180
         refine w_seq (fun K182 hK181 => ?_)
         refine w_region ?_
         refine w_pure want_none (y_move (v := .int _ _) rfl rfl) rfl ?_
         refine w_pure want_none (y_move (v := .int _ _) rfl rfl) rfl ?_
         refine w_pure want_none (y_indexA Try.underlying121 Try.sizeOf3 rfl rfl rfl rfl (i := q) (by first | rfl | omega) (by omega)) rfl ?_
         refine w_pure want_none (y_load1 Try.isAgg3 hs177 rfl rfl (ats_ints (i := 0) (j := q) rfl (by first | omega | rfl | (simp only [hh6, List.length_map, List.length_set, List.length_append, List.length_take, List.length_drop, List.length_replicate, List.length_cons, List.length_nil] <;> omega)))) rfl ?_
         refine w_pure want_none (y_add rfl rfl rfl rfl (by omega) (by omega)) rfl ?_
         refine w_pure want_none (y_assign (v := .int _ _) rfl rfl) rfl ?_
         refine w_nil ?_
         refine q_then (hK181 _ _ ?_)
         refine w_region ?_
         refine w_pure want_none (y_move (v := .int _ _) rfl rfl) rfl ?_
         refine w_pure want_none (y_move (v := .int _ _) rfl rfl) rfl ?_
         refine w_pure want_none (y_indexA Try.underlying121 Try.sizeOf3 rfl rfl rfl rfl (i := q) (by first | rfl | omega) (by omega)) rfl ?_
         refine w_pure want_none (y_load1 Try.isAgg3 hs177 rfl rfl (ats_ints (i := 0) (j := q) rfl (by first | omega | rfl | (simp only [hh6, List.length_map, List.length_set, List.length_append, List.length_take, List.length_drop, List.length_replicate, List.length_cons, List.length_nil] <;> omega)))) rfl ?_
         refine w_pure want_none (y_add rfl rfl rfl rfl (by omega) (by omega)) rfl ?_
         refine w_pure want_none (y_assign (v := .int _ _) rfl rfl) rfl ?_
         refine w_nil ?_
         refine q_blk_normal ?_
         refine q_blk_normal ?_
         refine q_then (hK167 _ _ ?_)
         refine w_region ?_
         refine w_pure want_none (y_add rfl rfl rfl rfl (by omega) (by omega)) rfl ?_
         refine w_pure want_none (y_move (v := .int _ _) rfl rfl) rfl ?_
         refine w_nil ?_
         refine q_then (hN159 _ _ (Nx.intro (l.bunches.length - (q + 1)) (by omega) (by repeat (first | exact agree_mix | refine agree_upd rfl ?_ | refine agree_updL rfl ?_ _ | refine agree_mixin rfl ?_)) ?_))
         first
           | (have hq := sums_a (l := l) (g := g.toNat) (h := ((Ha.ways l 0)[i]'hi2)) (k := q) (by rw [← hat q]; omega)
              rw [← hat q] at hq
              exact ⟨q + 1, M2, iv3 (by rw [hq]) (by rw [hq]) rfl, by omega, rfl, hM2, hs177⟩)
           | (have hq := sums_b (l := l) (g := g.toNat) (h := ((Ha.ways l 0)[i]'hi2)) (k := q) (by rw [← hat q]; omega) (by rw [← hat q]; omega)
              rw [← hat q] at hq
              exact ⟨q + 1, M2, iv3 (by rw [hq]) (by rw [hq]) rfl, by omega, rfl, hM2, hs177⟩)
           | (have hq := sums_c (l := l) (g := g.toNat) (h := ((Ha.ways l 0)[i]'hi2)) (k := q) (by rw [← hat q]; omega) (by rw [← hat q]; omega)
              exact ⟨q + 1, M2, iv3 (by rw [hq]) (by rw [hq]) rfl, by omega, rfl, hM2, hs177⟩)
        ·
         try simp only [Bool.not_eq_true', Bool.not_eq_false', decide_eq_true_eq, decide_eq_false_iff_not, Int.not_lt, Int.not_le] at h180
         refine w_seq (fun K184 hK183 => ?_)
         refine w_region ?_
         refine w_pure want_none (y_move (v := .int _ _) rfl rfl) rfl ?_
         refine w_pure want_none (y_load1 Try.isAgg3 hs177.tail.tail.drop.drop.tail rfl rfl hx3) rfl ?_
         refine w_pure want_none (y_add rfl rfl rfl rfl (by omega) (by omega)) rfl ?_
         refine w_pure want_none (y_shr (x := (gradesB l (bunchOf l q) (h.getD q 0))) (y := g.toNat + 1) rfl rfl rfl rfl (by first | rfl | omega) (by first | rfl | omega) (by first | omega | exact shr_lt (by omega))) rfl ?_
         refine w_pure want_none (show Yd _ _ _ _ (.int .i64 ((bit (gradesB l (bunchOf l q) (h.getD q 0)) (g.toNat + 1) : Nat) : Int)) from (y_and (x := _) (y := 1) rfl rfl rfl rfl rfl rfl (by first | omega | exact shr_lt (by omega)) (by first | omega | exact shr_lt (by omega)))) rfl ?_
         refine w_pure want_none (y_eql rfl rfl rfl rfl) rfl ?_
         refine w_pure want_none (y_assign (v := .bool _) rfl rfl) rfl ?_
         refine w_nil ?_
         refine q_then (hK183 _ _ ?_)
         refine w_cond rfl rfl (fun h185 => ?_) (fun h185 => ?_)
         ·
          try simp only [Bool.not_eq_true', Bool.not_eq_false', decide_eq_true_eq, decide_eq_false_iff_not, Int.not_lt, Int.not_le] at h185
          refine w_region ?_
          refine w_pure want_none (y_move (v := .int _ _) rfl rfl) rfl ?_
          refine w_pure want_none (y_move (v := .int _ _) rfl rfl) rfl ?_
          refine w_pure want_none (y_indexA Try.underlying121 Try.sizeOf3 rfl rfl rfl rfl (i := q) (by first | rfl | omega) (by omega)) rfl ?_
          refine w_pure want_none (y_load1 Try.isAgg3 hs177 rfl rfl (ats_ints (i := 0) (j := q) rfl (by first | omega | rfl | (simp only [hh6, List.length_map, List.length_set, List.length_append, List.length_take, List.length_drop, List.length_replicate, List.length_cons, List.length_nil] <;> omega)))) rfl ?_
          refine w_pure want_none (y_add rfl rfl rfl rfl (by omega) (by omega)) rfl ?_
          refine w_pure want_none (y_assign (v := .int _ _) rfl rfl) rfl ?_
          refine w_nil ?_
          refine q_blk_normal ?_
          refine q_blk_normal ?_
          refine q_then (hK167 _ _ ?_)
          refine w_region ?_
          refine w_pure want_none (y_add rfl rfl rfl rfl (by omega) (by omega)) rfl ?_
          refine w_pure want_none (y_move (v := .int _ _) rfl rfl) rfl ?_
          refine w_nil ?_
          refine q_then (hN159 _ _ (Nx.intro (l.bunches.length - (q + 1)) (by omega) (by repeat (first | exact agree_mix | refine agree_upd rfl ?_ | refine agree_updL rfl ?_ _ | refine agree_mixin rfl ?_)) ?_))
          first
            | (have hq := sums_a (l := l) (g := g.toNat) (h := ((Ha.ways l 0)[i]'hi2)) (k := q) (by rw [← hat q]; omega)
               rw [← hat q] at hq
               exact ⟨q + 1, M2, iv3 (by rw [hq]) (by rw [hq]) rfl, by omega, rfl, hM2, hs177⟩)
            | (have hq := sums_b (l := l) (g := g.toNat) (h := ((Ha.ways l 0)[i]'hi2)) (k := q) (by rw [← hat q]; omega) (by rw [← hat q]; omega)
               rw [← hat q] at hq
               exact ⟨q + 1, M2, iv3 (by rw [hq]) (by rw [hq]) rfl, by omega, rfl, hM2, hs177⟩)
            | (have hq := sums_c (l := l) (g := g.toNat) (h := ((Ha.ways l 0)[i]'hi2)) (k := q) (by rw [← hat q]; omega) (by rw [← hat q]; omega)
               exact ⟨q + 1, M2, iv3 (by rw [hq]) (by rw [hq]) rfl, by omega, rfl, hM2, hs177⟩)
         ·
          try simp only [Bool.not_eq_true', Bool.not_eq_false', decide_eq_true_eq, decide_eq_false_iff_not, Int.not_lt, Int.not_le] at h185
          refine w_skip ?_
          refine q_blk_normal ?_
          refine q_blk_normal ?_
          refine q_then (hK167 _ _ ?_)
          refine w_region ?_
          refine w_pure want_none (y_add rfl rfl rfl rfl (by omega) (by omega)) rfl ?_
          refine w_pure want_none (y_move (v := .int _ _) rfl rfl) rfl ?_
          refine w_nil ?_
          refine q_then (hN159 _ _ (Nx.intro (l.bunches.length - (q + 1)) (by omega) (by repeat (first | exact agree_mix | refine agree_upd rfl ?_ | refine agree_updL rfl ?_ _ | refine agree_mixin rfl ?_)) ?_))
          first
            | (have hq := sums_a (l := l) (g := g.toNat) (h := ((Ha.ways l 0)[i]'hi2)) (k := q) (by rw [← hat q]; omega)
               rw [← hat q] at hq
               exact ⟨q + 1, M2, iv3 (by rw [hq]) (by rw [hq]) rfl, by omega, rfl, hM2, hs177⟩)
            | (have hq := sums_b (l := l) (g := g.toNat) (h := ((Ha.ways l 0)[i]'hi2)) (k := q) (by rw [← hat q]; omega) (by rw [← hat q]; omega)
               rw [← hat q] at hq
               exact ⟨q + 1, M2, iv3 (by rw [hq]) (by rw [hq]) rfl, by omega, rfl, hM2, hs177⟩)
            | (have hq := sums_c (l := l) (g := g.toNat) (h := ((Ha.ways l 0)[i]'hi2)) (k := q) (by rw [← hat q]; omega) (by rw [← hat q]; omega)
               exact ⟨q + 1, M2, iv3 (by rw [hq]) (by rw [hq]) rfl, by omega, rfl, hM2, hs177⟩)
       ·
        try simp only [Bool.not_eq_true', Bool.not_eq_false', decide_eq_true_eq, decide_eq_false_iff_not, Int.not_lt, Int.not_le] at h166
        refine w_exit ?_
        refine q_then_exit ?_
        refine q_then_exit ?_
        refine q_blk_this ?_
        refine q_then (hK155 _ _ ?_)
        refine w_region ?_
        refine w_pure want_none (y_fieldAddr (o := 0) (i := 0) Try.underlying34 rfl Try.sizeOf3 rfl rfl rfl) rfl ?_
        refine w_pure want_none (y_load1 Try.isAgg3 hs rfl rfl (ats_own (i := 1) (vs := [_]) rfl rfl)) rfl ?_
        refine w_pure want_none (y_move (v := .int _ _) rfl rfl) rfl ?_
        refine w_pure want_none (y_min2 rfl rfl rfl rfl) rfl ?_
        refine w_pure want_none (y_fieldAddr (o := 1) (i := 1) Try.underlying34 rfl Try.sizeOf3 rfl rfl rfl) rfl ?_
        refine w_pure want_none (y_load1 Try.isAgg3 hs rfl rfl (ats_own (i := 1) (vs := [_]) rfl rfl)) rfl ?_
        refine w_pure want_none (y_move (v := .int _ _) rfl rfl) rfl ?_
        refine w_pure want_none (y_max2 rfl rfl rfl rfl) rfl ?_
        refine w_pure want_none (y_build (ps := [(0, _), (1, _)]) (pv := [(0, .int _ _), (1, .int _ _)]) rfl rfl (fun w => Try_N_fb4 _ _ w)) rfl ?_
        refine w_store (i := 1) (v := .agg #[.int _ _, .int _ _]) (vs := [_, _]) want_none Try.sizeOf34 rfl rfl rfl rfl rfl (by simp [Value.oneCell']) hs rfl (Nat.le_of_ble_eq_true rfl) (fun w186 hs187 => ?_)
        refine w_nil ?_
        refine q_blk_normal ?_
        refine rd_normal (_ :: M) hs187.tail ?_
        have hqn : q = l.bunches.length := by omega
        subst hqn
        exact ⟨M, tot_cells (by rw [total_take hi2]; rfl) (by rw [total_take hi2]; rfl), hM⟩
     ·
      intro bd Bx w188 hJ hs
      obtain ⟨M, rfl, hM⟩ := hJ
      rw [List.length_map, List.length_map, List.take_length] at hs
      replace hs := (show St _ _ (_ :: _ :: (M ++ (_ :: _ :: _ :: _ :: _ :: _ :: _ :: F))) from hs)
      refine q_blk_normal ?_
      refine q_then (hK137 _ _ ?_)
      refine w_seq (fun K190 hK189 => ?_)
      refine w_region ?_
      refine w_pure want_none (y_loadN (vs := [_, _]) Try.isAgg34 Try.sizeOf34 hs rfl rfl (ats_own (i := 1) (vs := [_, _]) rfl rfl)) rfl ?_
      refine w_store (i := 1) (v := .agg #[.int _ _, .int _ _]) (vs := [_, _]) want_none Try.sizeOf34 rfl rfl rfl rfl rfl (by simp [Value.oneCell']) hs rfl (Nat.le_of_ble_eq_true rfl) (fun w191 hs192 => ?_)
      refine w_pure want_none (y_assign (v := _) rfl rfl) rfl ?_
      refine w_nil ?_
      refine q_then (hK189 _ _ ?_)
      refine w_ret ?_
      refine q_retM (i := 0) (l := [.cell 4 34, .tmp 5]) (vs := [_, _]) hs192 rfl rfl (fun w193 hs194 => ⟨⟨⟨rfl, _, rfl, run_loadVarN (vs := [_, _]) Try.isAgg34 Try.sizeOf34 hs194 (ats_own (i := 1) (vs := [_, _]) rfl rfl)⟩, ⟨rfl, show _ = (.int _ _ : Value) from rfl⟩, trivial⟩, ?_⟩)
      exact ⟨by unfold totalP; rw [if_neg (by simp [hee])]; rfl, hs194.tail.tail.drop.tail.tail.tail.tail.tail.tail.tail⟩
     ·
      intro _ _ _ _ hJ
      exact hJ.elim
  ·
   refine w_alloc (cs := [_]) want_none Try.zeroValue104 rfl hs15 (fun b195 w196 hs197 => ?_)
   refine w_nil ?_
   refine qn ⟨hs197.tail, ?_⟩
   refine dt_done ?_
   refine d_eff rfl ?_
   refine w_call want_none Try.call70 rfl rfl rfl rfl (c70 _ _ hs197) ?_
   rintro _ w199 ⟨bb, bn, rfl, hs200⟩
   refine w_nil ?_
   refine qn ⟨hs200.tail.tail.tail, ?_⟩
   refine d_eff rfl ?_
   refine w_call want_none Try.call69 rfl rfl rfl rfl (c69 l p hm.cons.cons.cons.cons.cons.cons (.func (.func 105) #[] #[.pointer (some ⟨bb, 0, none⟩), .pointer (some ⟨bn, 0, none⟩)]) (idxE g l.grades.length) (fun X w hs => fcon_fn Try.call105 (c105 g l.grades.length _ _ (by omega) (Ats.app (ats_own (i := 0) (vs := [_]) rfl rfl)) (Ats.app (ats_own (i := 1) (vs := [_]) rfl rfl)) hs)) hs200) ?_
   rintro _ w202 (⟨hee, rfl, hs203⟩ | ⟨hee, lb, mm, M, rfl, hM, hs203⟩)
   ·
    refine w_nil ?_
    refine qn ⟨hs203.tail.tail.tail, ?_⟩
    refine d_any rfl want_none rfl (fun _ => (y_move (v := .tuple _) rfl rfl)) ?_
    refine d_any rfl want_none rfl (fun _ => (y_extract (v := .pointer _) rfl rfl rfl)) ?_
    refine d_any rfl want_none rfl (fun _ => (y_extract (v := .int _ _) rfl rfl rfl)) ?_
    refine d_late rfl ?_
    refine w_store (i := 2) (v := .pointer _) (vs := [_]) want_none Try.sizeOf104 rfl rfl rfl rfl rfl (by simp [Value.oneCell']) hs203 rfl (Nat.le_of_ble_eq_true rfl) (fun w204 hs205 => ?_)
    refine w_nil ?_
    refine qn ?_
    refine d_any rfl want_none rfl (fun _ => (y_assign (v := .int _ _) rfl rfl)) ?_
    refine d_nil ?_
    refine q_then (hK12 _ _ ?_)
    refine w_seq (fun K207 hK206 => ?_)
    refine w_seq (fun K209 hK208 => ?_)
    refine w_region ?_
    refine w_pure want_none (y_move (v := .int _ _) rfl rfl) rfl ?_
    refine w_pure want_none (y_neq rfl rfl rfl rfl) rfl ?_
    refine w_nil ?_
    refine q_then (hK208 _ _ ?_)
    refine w_cond rfl rfl (fun h210 => ?_) (fun h210 => ?_)
    ·
     try simp only [Bool.not_eq_true', Bool.not_eq_false', decide_eq_true_eq, decide_eq_false_iff_not, Int.not_lt, Int.not_le] at h210
     refine w_seq (fun K212 hK211 => ?_)
     refine w_region ?_
     refine w_pure want_none (y_loadN (vs := [_, _]) Try.isAgg34 Try.sizeOf34 hs205 rfl rfl (ats_own (i := 3) (vs := [_, _]) rfl rfl)) rfl ?_
     refine w_pure want_none (y_move (v := .int _ _) rfl rfl) rfl ?_
     refine w_store (i := 3) (v := .agg #[.int _ _, .int _ _]) (vs := [_, _]) want_none Try.sizeOf34 rfl rfl rfl rfl rfl (by simp [Value.oneCell']) hs205 rfl (Nat.le_of_ble_eq_true rfl) (fun w213 hs214 => ?_)
     refine w_pure want_none (y_assign (v := .int _ _) rfl rfl) rfl ?_
     refine w_nil ?_
     refine q_then (hK211 _ _ ?_)
     refine w_ret ?_
     refine q_then_ret ?_
     refine q_retM0 (l := [.cell 4 34, .tmp 5]) (vs := [_, _]) rfl ⟨⟨rfl, _, rfl, run_loadVarN (vs := [_, _]) Try.isAgg34 Try.sizeOf34 hs214 (ats_own (i := 3) (vs := [_, _]) rfl rfl)⟩, ⟨rfl, show _ = (.int _ _ : Value) from rfl⟩, trivial⟩ ?_
     exact ⟨by unfold totalP; rw [if_pos hee]; rfl, hs214.tail.tail.tail.tail.tail.tail⟩
    ·
     exfalso
     try simp only [Bool.not_eq_true', Bool.not_eq_false', decide_eq_true_eq, decide_eq_false_iff_not, Int.not_lt, Int.not_le] at h210
     first | exact hee h210 | exact h210 hee
   ·
    replace hs203 := (show St _ _ (M ++ (_ :: _ :: _ :: _ :: _ :: _ :: _ :: F)) from hs203)
    have hk := lk_new hs203 hm.cons.cons.cons.cons.cons.cons (enterE_zero hee).1
    have hew := enterE_zero hee
    have hbt := hk.bt
    have hlg := hk.ok.lg
    have hlb := hk.ok.lb
    have hlc := hk.ok.lc
    refine w_nil ?_
    refine qn ⟨hs203.drop.tail.tail.tail.tail, ?_⟩
    refine d_any rfl want_none rfl (fun _ => (y_move (v := .tuple _) rfl rfl)) ?_
    refine d_any rfl want_none rfl (fun _ => (y_extract (v := .pointer _) rfl rfl rfl)) ?_
    refine d_any rfl want_none rfl (fun _ => (y_extract (v := .int _ _) rfl rfl rfl)) ?_
    have hs215 := front6 (M := M) (Y := [_, _, _]) (show St _ _ (M ++ ([_, _, _] ++ (_ :: _ :: _ :: _ :: F))) from hs203)
    replace hs215 := (show St _ _ (_ :: (M ++ (_ :: _ :: _ :: _ :: _ :: _ :: F))) from hs215)
    refine d_late rfl ?_
    refine w_store (i := 0) (v := .pointer _) (vs := [_]) want_none Try.sizeOf104 rfl rfl rfl rfl rfl (by simp [Value.oneCell']) hs215 rfl (Nat.le_of_ble_eq_true rfl) (fun w216 hs217 => ?_)
    refine w_nil ?_
    refine qn ?_
    refine d_any rfl want_none rfl (fun _ => (y_assign (v := .int _ _) rfl rfl)) ?_
    refine d_nil ?_
    refine q_then (hK12 _ _ ?_)
    refine w_seq (fun K219 hK218 => ?_)
    refine w_seq (fun K221 hK220 => ?_)
    refine w_region ?_
    refine w_pure want_none (y_move (v := .int _ _) rfl rfl) rfl ?_
    refine w_pure want_none (y_neq rfl rfl rfl rfl) rfl ?_
    refine w_nil ?_
    refine q_then (hK220 _ _ ?_)
    refine w_condF rfl rfl ?_
    refine w_skip ?_
    refine q_then (hK218 _ _ ?_)
    refine w_seq (fun K223 hK222 => ?_)
    have hs224 := tot_perm (show St _ _ (_ :: (M ++ (_ :: _ :: _ :: _ :: _ :: _ :: F))) from hs217)
    have hk := lk_c hs224.tail (lk_new (kq_own hs224.tail) hm.cons.cons.cons.cons (enterE_zero hee).1)
    have hgl := idxE_zero hew.2.1
    have hx6 : Ats w0 ((b195, blk 104 [.pointer (some ⟨lb, 0, none⟩)]) :: (lb, blk 145 [.slice p.ag l.grades.length p.cg, .slice p.ab l.bunches.length p.cb, .slice p.ac l.counts.length p.cc, .int .i64 ((0 : Nat) : Int), .map (some mm)]) :: (bb, blk 3 [.int .i64 (l.grades.length : Int)]) :: (bn, blk 3 [.int .i64 g]) :: (b6, blk 3 [.int .i64 g]) :: (b3, blk 26 (l.cells p)) :: F) b195 0 [.pointer (some ⟨lb, 0, none⟩)] := ats_own (i := 0) rfl rfl
    have hx3 : Ats w0 ((b195, blk 104 [.pointer (some ⟨lb, 0, none⟩)]) :: (lb, blk 145 [.slice p.ag l.grades.length p.cg, .slice p.ab l.bunches.length p.cb, .slice p.ac l.counts.length p.cc, .int .i64 ((0 : Nat) : Int), .map (some mm)]) :: (bb, blk 3 [.int .i64 (l.grades.length : Int)]) :: (bn, blk 3 [.int .i64 g]) :: (b6, blk 3 [.int .i64 g]) :: (b3, blk 26 (l.cells p)) :: F) b6 0 [.int .i64 g] := ats_own (i := 4) rfl rfl
    have hx2 : Ats w0 ((b195, blk 104 [.pointer (some ⟨lb, 0, none⟩)]) :: (lb, blk 145 [.slice p.ag l.grades.length p.cg, .slice p.ab l.bunches.length p.cb, .slice p.ac l.counts.length p.cc, .int .i64 ((0 : Nat) : Int), .map (some mm)]) :: (bb, blk 3 [.int .i64 (l.grades.length : Int)]) :: (bn, blk 3 [.int .i64 g]) :: (b6, blk 3 [.int .i64 g]) :: (b3, blk 26 (l.cells p)) :: F) b3 0 (l.cells p) := ats_own (i := 5) rfl rfl
    refine w_region ?_
    refine w_pure want_none (y_build (ps := [(0, _)]) (pv := [(0, .int _ _)]) rfl rfl (fun w => Try_N_fb2 _ w)) rfl ?_
    refine w_store (i := 0) (v := .agg #[.int _ _, .int _ _]) (vs := [_, _]) want_none Try.sizeOf34 rfl rfl rfl rfl rfl (by simp [Value.oneCell']) hs224 rfl (Nat.le_of_ble_eq_true rfl) (fun w225 hs226 => ?_)
    refine w_nil ?_
    refine q_then (hK222 _ _ ?_)
    refine w_seq (fun K228 hK227 => ?_)
    refine w_seq (fun K230 hK229 => ?_)
    refine w_region ?_
    refine w_pure want_none (y_load1 Try.isAgg104 hs226.tail.drop rfl rfl hx6) rfl ?_
    refine w_call want_none Try.call78 rfl rfl rfl rfl (c78 _ hs226) ?_
    rintro _ w232 ⟨bp, rfl, hs233⟩
    refine w_nil ?_
    refine q_then (hK229 _ _ ?_)
    refine w_block ?_
    refine w_range (_ :: M) (fun i Bx => ∃ M, Bx = (b9, blk 34 [.int .i64 (totalW l g.toNat ((Ha.ways l 0).take i)).1, .int .i64 (totalW l g.toNat ((Ha.ways l 0).take i)).2]) :: M ∧ Memo l mm M) (fun _ _ => False) rfl rfl rfl Try.call106 (ways_iter l p 0 lb mm hk.cons bp (ats_own (i := 0) (vs := [_]) rfl rfl)) hs233 (perm_mid [_] (_ :: M) _) ⟨M, rfl, hM⟩ ?_ ?_ ?_
    ·
     intro lp i hi Bx Xr Xr2 w235 hJ hs K hK234
     obtain ⟨M, rfl, hM⟩ := hJ
     have hi2 : i < (Ha.ways l 0).length := by simpa using hi
     rw [List.getElem_map, List.getElem_map]
     have hpl := padw_len hk.ok (List.mem_map.2 ⟨_, List.getElem_mem hi2, rfl⟩)
     have hat := pad6_at (Ha.ways l 0)[i]
     have hwi := way_in hk.ok (List.getElem_mem hi2)
     obtain ⟨h, hh⟩ : ∃ h, h = pad6 (Ha.ways l 0)[i] := ⟨_, rfl⟩
     rw [← hh] at hpl hat ⊢
     have hh6 := hpl.1
     replace hs := (show St _ _ (_ :: (M ++ (Xr ++ (_ :: _ :: _ :: _ :: _ :: _ :: _ :: F)))) from hs)
     refine w_region ?_
     refine w_alloc (cs := iv [0, 0, 0, 0, 0, 0]) want_none Try.zeroValue121 rfl hs (fun b236 w237 hs238 => ?_)
     refine w_storeI (i := 0) (l := _) want_none Try.sizeOf121 (by first | omega | rfl | (simp only [hh6, List.length_map, List.length_set, List.length_append, List.length_take, List.length_drop, List.length_replicate, List.length_cons, List.length_nil] <;> omega)) rfl rfl rfl rfl rfl hs238 rfl (by first | omega | rfl | (simp only [hh6, List.length_map, List.length_set, List.length_append, List.length_take, List.length_drop, List.length_replicate, List.length_cons, List.length_nil] <;> omega)) (fun w239 hs240 => ?_)
     refine w_nil ?_
     refine q_then (hK234 _ _ (_ :: _ :: M) hs240 (fun w241 hs242 => ?_))
     replace hs242 := (show St _ _ (_ :: _ :: M ++ (Xr2 ++ (_ :: _ :: _ :: _ :: _ :: _ :: _ :: F))) from hs242)
     refine w_block ?_
     refine w_seq (fun K244 hK243 => ?_)
     refine w_region ?_
     refine w_pure want_none (y_assign (v := _) rfl rfl) rfl ?_
     refine w_pure want_none (y_assign (v := _) rfl rfl) rfl ?_
     refine w_nil ?_
     refine q_then (hK243 _ _ ?_)
     refine w_seq (fun K246 hK245 => ?_)
     refine w_seq (fun K248 hK247 => ?_)
     refine w_region ?_
     refine w_pure want_none (y_fieldAddr (o := 1) (i := 1) Try.underlying26 rfl Try.sizeOf23 rfl rfl rfl) rfl ?_
     refine w_pure want_none (y_load1 Try.isAgg23 hs242.tail.tail.drop.drop.tail rfl rfl (show Ats _ _ _ _ [_] from Ats.part hx2 1 1)) rfl ?_
     refine w_pure want_none (y_lenS Try.underlying23 rfl rfl) rfl ?_
     refine w_pure want_none (y_move (v := _) rfl rfl) rfl ?_
     refine w_nil ?_
     refine q_then (hK247 _ _ ?_)
     refine w_block ?_
     refine w_loop [8, 9, 10, 11, 33, 34, 35, 36, 37, 38, 39, 40, 41, 42, 43, 44, 45, 46, 47, 48, 49, 50, 51, 52, 53, 54, 55, 56, 57, 58, 59, 60, 61, 62, 63, 64, 65, 66, 67, 68, 69, 70] [8, 9, 33] (fun k vs w => ∃ (q : Nat) (M : List (Nat × Obj)), vs = [.int .i64 (sumsTo l g.toNat ((Ha.ways l 0)[i]'hi2) q).1, .int .i64 (sumsTo l g.toNat ((Ha.ways l 0)[i]'hi2) q).2, .int .i64 q] ∧ q ≤ l.bunches.length ∧ k = l.bunches.length - q ∧ Memo l mm M ∧ St w0 w ((b236, blk 121 (iv h)) :: (b9, blk 34 [.int .i64 (totalW l g.toNat ((Ha.ways l 0).take i)).1, .int .i64 (totalW l g.toNat ((Ha.ways l 0).take i)).2]) :: (M ++ (Xr2 ++ ((bp, blk 104 [.pointer (some ⟨lb, 0, none⟩)]) :: (b195, blk 104 [.pointer (some ⟨lb, 0, none⟩)]) :: (lb, blk 145 [.slice p.ag l.grades.length p.cg, .slice p.ab l.bunches.length p.cb, .slice p.ac l.counts.length p.cc, .int .i64 ((0 : Nat) : Int), .map (some mm)]) :: (bb, blk 3 [.int .i64 (l.grades.length : Int)]) :: (bn, blk 3 [.int .i64 g]) :: (b6, blk 3 [.int .i64 g]) :: (b3, blk 26 (l.cells p)) :: F))))) (l.bunches.length) ?_ ?_
     ·
      exact ⟨0, M, rfl, by omega, by omega, hM, hs242⟩
     ·
      intro k vs μ w251 hI K250 hN249
      obtain ⟨q, M, rfl, hqa, rfl, hM, hs⟩ := hI
      refine w_seq (fun K253 hK252 => ?_)
      refine w_region ?_
      refine w_pure want_none (y_lss rfl rfl rfl rfl) rfl ?_
      refine w_nil ?_
      refine q_then (hK252 _ _ ?_)
      refine w_seq (fun K255 hK254 => ?_)
      refine w_cond rfl rfl (fun h256 => ?_) (fun h256 => ?_)
      ·
       try simp only [Bool.not_eq_true', Bool.not_eq_false', decide_eq_true_eq, decide_eq_false_iff_not, Int.not_lt, Int.not_le] at h256
       refine w_skip ?_
       refine q_then (hK254 _ _ ?_)
       refine w_seq (fun K258 hK257 => ?_)
       refine w_block ?_
       refine w_seq (fun K260 hK259 => ?_)
       refine w_region ?_
       refine w_pure want_none (y_move (v := .int _ _) rfl rfl) rfl ?_
       refine w_pure want_none (y_assign (v := .int _ _) rfl rfl) rfl ?_
       refine w_nil ?_
       refine q_then (hK259 _ _ ?_)
       refine w_seq (fun K262 hK261 => ?_)
       have hq2 : q < l.bunches.length := by omega
       have hgq := gradesB_in hk.ok hq2 (h.getD q 0)
       have hsm := sums_in (l := l) (g := g.toNat) hwi q
       have h2g := two_shl (g := g.toNat) (by omega)
       have hgq2 := hwi q
       rw [← hat q] at hgq2
       refine w_drawC (C := fun w => ∃ M, Memo l mm M ∧ St w0 w ((b236, blk 121 (iv h)) :: (b9, blk 34 [.int .i64 (totalW l g.toNat ((Ha.ways l 0).take i)).1, .int .i64 (totalW l g.toNat ((Ha.ways l 0).take i)).2]) :: (M ++ (Xr2 ++ ((bp, blk 104 [.pointer (some ⟨lb, 0, none⟩)]) :: (b195, blk 104 [.pointer (some ⟨lb, 0, none⟩)]) :: (lb, blk 145 [.slice p.ag l.grades.length p.cg, .slice p.ab l.bunches.length p.cb, .slice p.ac l.counts.length p.cc, .int .i64 ((0 : Nat) : Int), .map (some mm)]) :: (bb, blk 3 [.int .i64 (l.grades.length : Int)]) :: (bn, blk 3 [.int .i64 g]) :: (b6, blk 3 [.int .i64 g]) :: (b3, blk 26 (l.cells p)) :: F))))) [] [(0, 1), (1, 0), (2, 0), (3, 0), (4, 1), (5, 0), (6, 2), (7, 0)] Try_mo (by kernel_rfl) ⟨_, hM, hs⟩ (fun _ ⟨M, h1, h2⟩ => ⟨M, h1, h2.drew⟩) (fun w263 ⟨M, hM, hs264⟩ => ?_)
       refine d_takeC rfl want_none rfl ⟨_, hM, hs264⟩ (fun _ ⟨M, hM, hq⟩ => (y_load1 Try.isAgg104 hq.tail.tail.drop.drop.tail rfl rfl hx6)) ?_
       refine d_any rfl want_none rfl (fun _ => (y_move (v := .int _ _) rfl rfl)) ?_
       refine d_any rfl want_none rfl (fun _ => (y_move (v := .int _ _) rfl rfl)) ?_
       refine d_any rfl want_none rfl (fun _ => (y_indexA Try.underlying121 Try.sizeOf3 rfl rfl rfl rfl (i := q) (by first | rfl | omega) (by omega))) ?_
       refine d_takeC rfl want_none rfl ⟨_, hM, hs264⟩ (fun _ ⟨M, hM, hq⟩ => (y_load1 Try.isAgg3 hq rfl rfl (ats_ints (i := 0) (j := q) rfl (by first | omega | rfl | (simp only [hh6, List.length_map, List.length_set, List.length_append, List.length_take, List.length_drop, List.length_replicate, List.length_cons, List.length_nil] <;> omega))))) ?_
       refine d_any rfl want_none rfl (fun _ => (y_build (ps := [(0, _), (1, _)]) (pv := [(0, .int _ _), (1, .int _ _)]) rfl rfl (fun w => Try_N_fb3 _ _ w))) ?_
       refine d_eff rfl ?_
       refine w_call want_none Try.call79 rfl rfl rfl rfl (grades_con (X := _ :: _ :: []) (F := Xr2 ++ ((bp, blk 104 [.pointer (some ⟨lb, 0, none⟩)]) :: (b195, blk 104 [.pointer (some ⟨lb, 0, none⟩)]) :: (lb, blk 145 [.slice p.ag l.grades.length p.cg, .slice p.ab l.bunches.length p.cb, .slice p.ac l.counts.length p.cc, .int .i64 ((0 : Nat) : Int), .map (some mm)]) :: (bb, blk 3 [.int .i64 (l.grades.length : Int)]) :: (bn, blk 3 [.int .i64 g]) :: (b6, blk 3 [.int .i64 g]) :: (b3, blk 26 (l.cells p)) :: F)) l p 0 lb mm hk.cons.app q hq2 (h.getD q 0) hM hs264) ?_
       rintro _ w266 ⟨rfl, M2, hM2, hs267⟩
       replace hs267 := (show St _ _ (_ :: _ :: M2 ++ (Xr2 ++ (_ :: _ :: _ :: _ :: _ :: _ :: _ :: F))) from hs267)
       refine w_nil ?_
       refine qn ⟨⟨_, hM2, hs267⟩, ?_⟩
       refine d_any rfl want_none rfl (fun _ => (y_assign (v := .int _ _) rfl rfl)) ?_
       refine d_nil ?_
       refine q_then (hK261 _ _ ?_)
       refine w_block ?_
       refine w_seq (fun K269 hK268 => ?_)
       refine w_region ?_
       refine w_pure want_none (y_move (v := .int _ _) rfl rfl) rfl ?_
       refine w_pure want_none (y_load1 Try.isAgg3 hs267.tail.tail.drop.drop.tail rfl rfl hx3) rfl ?_
       refine w_pure want_none (y_shl (x := 2) (y := g.toNat) rfl rfl rfl rfl rfl (by first | rfl | omega) (by first | omega | exact shr_lt (by omega)) (by first | omega | exact shr_lt (by omega))) rfl ?_
       refine w_pure want_none (y_eql rfl rfl rfl rfl) rfl ?_
       refine w_pure want_none (y_assign (v := .bool _) rfl rfl) rfl ?_
       refine w_nil ?_
       refine q_then (hK268 _ _ ?_)
       refine w_cond rfl rfl (fun h270 => ?_) (fun h270 => ?_)
       ·
        try simp only [Bool.not_eq_true', Bool.not_eq_false', decide_eq_true_eq, decide_eq_false_iff_not, Int.not_lt, Int.not_le] at h270
        refine w_seq (fun K272 hK271 => ?_)
        refine w_region ?_
        refine w_pure want_none (y_move (v := .int _ _) rfl rfl) rfl ?_
        refine w_pure want_none (y_move (v := .int _ _) rfl rfl) rfl ?_
        refine w_pure want_none (y_indexA Try.underlying121 Try.sizeOf3 rfl rfl rfl rfl (i := q) (by first | rfl | omega) (by omega)) rfl ?_
        refine w_pure want_none (y_load1 Try.isAgg3 hs267 rfl rfl (ats_ints (i := 0) (j := q) rfl (by first | omega | rfl | (simp only [hh6, List.length_map, List.length_set, List.length_append, List.length_take, List.length_drop, List.length_replicate, List.length_cons, List.length_nil] <;> omega)))) rfl ?_
        refine w_pure want_none (y_add rfl rfl rfl rfl (by omega) (by omega)) rfl ?_
        refine w_pure want_none (y_assign (v := .int _ _) rfl rfl) rfl ?_
        refine w_nil ?_
        refine q_then (hK271 _ _ ?_)
        refine w_region ?_
        refine w_pure want_none (y_move (v := .int _ _) rfl rfl) rfl ?_
        refine w_pure want_none (y_move (v := .int _ _) rfl rfl) rfl ?_
        refine w_pure want_none (y_indexA Try.underlying121 Try.sizeOf3 rfl rfl rfl rfl (i := q) (by first | rfl | omega) (by omega)) rfl ?_
        refine w_pure want_none (y_load1 Try.isAgg3 hs267 rfl rfl (ats_ints (i := 0) (j := q) rfl (by first | omega | rfl | (simp only [hh6, List.length_map, List.length_set, List.length_append, List.length_take, List.length_drop, List.length_replicate, List.length_cons, List.length_nil] <;> omega)))) rfl ?_
        refine w_pure want_none (y_add rfl rfl rfl rfl (by omega) (by omega)) rfl ?_
        refine w_pure want_none (y_assign (v := .int _ _) rfl rfl) rfl ?_
        refine w_nil ?_
        refine q_blk_normal ?_
        refine q_blk_normal ?_
        refine q_then (hK257 _ _ ?_)
        refine w_region ?_
        refine w_pure want_none (y_add rfl rfl rfl rfl (by omega) (by omega)) rfl ?_
        refine w_pure want_none (y_move (v := .int _ _) rfl rfl) rfl ?_
        refine w_nil ?_
        refine q_then (hN249 _ _ (Nx.intro (l.bunches.length - (q + 1)) (by omega) (by repeat (first | exact agree_mix | refine agree_upd rfl ?_ | refine agree_updL rfl ?_ _ | refine agree_mixin rfl ?_)) ?_))
        first
          | (have hq := sums_a (l := l) (g := g.toNat) (h := ((Ha.ways l 0)[i]'hi2)) (k := q) (by rw [← hat q]; omega)
             rw [← hat q] at hq
             exact ⟨q + 1, M2, iv3 (by rw [hq]) (by rw [hq]) rfl, by omega, rfl, hM2, hs267⟩)
          | (have hq := sums_b (l := l) (g := g.toNat) (h := ((Ha.ways l 0)[i]'hi2)) (k := q) (by rw [← hat q]; omega) (by rw [← hat q]; omega)
             rw [← hat q] at hq
             exact ⟨q + 1, M2, iv3 (by rw [hq]) (by rw [hq]) rfl, by omega, rfl, hM2, hs267⟩)
          | (have hq := sums_c (l := l) (g := g.toNat) (h := ((Ha.ways l 0)[i]'hi2)) (k := q) (by rw [← hat q]; omega) (by rw [← hat q]; omega)
             exact ⟨q + 1, M2, iv3 (by rw [hq]) (by rw [hq]) rfl, by omega, rfl, hM2, hs267⟩)
       ·
        try simp only [Bool.not_eq_true', Bool.not_eq_false', decide_eq_true_eq, decide_eq_false_iff_not, Int.not_lt, Int.not_le] at h270
        refine w_seq (fun K274 hK273 => ?_)
        refine w_region ?_
        refine w_pure want_none (y_move (v := .int _ _) rfl rfl) rfl ?_
        refine w_pure want_none (y_load1 Try.isAgg3 hs267.tail.tail.drop.drop.tail rfl rfl hx3) rfl ?_
        refine w_pure want_none (y_add rfl rfl rfl rfl (by omega) (by omega)) rfl ?_
        refine w_pure want_none (y_shr (x := (gradesB l (bunchOf l q) (h.getD q 0))) (y := g.toNat + 1) rfl rfl rfl rfl (by first | rfl | omega) (by first | rfl | omega) (by first | omega | exact shr_lt (by omega))) rfl ?_
        refine w_pure want_none (show Yd _ _ _ _ (.int .i64 ((bit (gradesB l (bunchOf l q) (h.getD q 0)) (g.toNat + 1) : Nat) : Int)) from (y_and (x := _) (y := 1) rfl rfl rfl rfl rfl rfl (by first | omega | exact shr_lt (by omega)) (by first | omega | exact shr_lt (by omega)))) rfl ?_
        refine w_pure want_none (y_eql rfl rfl rfl rfl) rfl ?_
        refine w_pure want_none (y_assign (v := .bool _) rfl rfl) rfl ?_
        refine w_nil ?_
        refine q_then (hK273 _ _ ?_)
        refine w_cond rfl rfl (fun h275 => ?_) (fun h275 => ?_)
        ·
         try simp only [Bool.not_eq_true', Bool.not_eq_false', decide_eq_true_eq, decide_eq_false_iff_not, Int.not_lt, Int.not_le] at h275
         refine w_region ?_
         refine w_pure want_none (y_move (v := .int _ _) rfl rfl) rfl ?_
         refine w_pure want_none (y_move (v := .int _ _) rfl rfl) rfl ?_
         refine w_pure want_none (y_indexA Try.underlying121 Try.sizeOf3 rfl rfl rfl rfl (i := q) (by first | rfl | omega) (by omega)) rfl ?_
         refine w_pure want_none (y_load1 Try.isAgg3 hs267 rfl rfl (ats_ints (i := 0) (j := q) rfl (by first | omega | rfl | (simp only [hh6, List.length_map, List.length_set, List.length_append, List.length_take, List.length_drop, List.length_replicate, List.length_cons, List.length_nil] <;> omega)))) rfl ?_
         refine w_pure want_none (y_add rfl rfl rfl rfl (by omega) (by omega)) rfl ?_
         refine w_pure want_none (y_assign (v := .int _ _) rfl rfl) rfl ?_
         refine w_nil ?_
         refine q_blk_normal ?_
         refine q_blk_normal ?_
         refine q_then (hK257 _ _ ?_)
         refine w_region ?_
         refine w_pure want_none (y_add rfl rfl rfl rfl (by omega) (by omega)) rfl ?_
         refine w_pure want_none (y_move (v := .int _ _) rfl rfl) rfl ?_
         refine w_nil ?_
         refine q_then (hN249 _ _ (Nx.intro (l.bunches.length - (q + 1)) (by omega) (by repeat (first | exact agree_mix | refine agree_upd rfl ?_ | refine agree_updL rfl ?_ _ | refine agree_mixin rfl ?_)) ?_))
         first
           | (have hq := sums_a (l := l) (g := g.toNat) (h := ((Ha.ways l 0)[i]'hi2)) (k := q) (by rw [← hat q]; omega)
              rw [← hat q] at hq
              exact ⟨q + 1, M2, iv3 (by rw [hq]) (by rw [hq]) rfl, by omega, rfl, hM2, hs267⟩)
           | (have hq := sums_b (l := l) (g := g.toNat) (h := ((Ha.ways l 0)[i]'hi2)) (k := q) (by rw [← hat q]; omega) (by rw [← hat q]; omega)
              rw [← hat q] at hq
              exact ⟨q + 1, M2, iv3 (by rw [hq]) (by rw [hq]) rfl, by omega, rfl, hM2, hs267⟩)
           | (have hq := sums_c (l := l) (g := g.toNat) (h := ((Ha.ways l 0)[i]'hi2)) (k := q) (by rw [← hat q]; omega) (by rw [← hat q]; omega)
              exact ⟨q + 1, M2, iv3 (by rw [hq]) (by rw [hq]) rfl, by omega, rfl, hM2, hs267⟩)
        ·
         try simp only [Bool.not_eq_true', Bool.not_eq_false', decide_eq_true_eq, decide_eq_false_iff_not, Int.not_lt, Int.not_le] at h275
         refine w_skip ?_
         refine q_blk_normal ?_
         refine q_blk_normal ?_
         refine q_then (hK257 _ _ ?_)
         refine w_region ?_
         refine w_pure want_none (y_add rfl rfl rfl rfl (by omega) (by omega)) rfl ?_
         refine w_pure want_none (y_move (v := .int _ _) rfl rfl) rfl ?_
         refine w_nil ?_
         refine q_then (hN249 _ _ (Nx.intro (l.bunches.length - (q + 1)) (by omega) (by repeat (first | exact agree_mix | refine agree_upd rfl ?_ | refine agree_updL rfl ?_ _ | refine agree_mixin rfl ?_)) ?_))
         first
           | (have hq := sums_a (l := l) (g := g.toNat) (h := ((Ha.ways l 0)[i]'hi2)) (k := q) (by rw [← hat q]; omega)
              rw [← hat q] at hq
              exact ⟨q + 1, M2, iv3 (by rw [hq]) (by rw [hq]) rfl, by omega, rfl, hM2, hs267⟩)
           | (have hq := sums_b (l := l) (g := g.toNat) (h := ((Ha.ways l 0)[i]'hi2)) (k := q) (by rw [← hat q]; omega) (by rw [← hat q]; omega)
              rw [← hat q] at hq
              exact ⟨q + 1, M2, iv3 (by rw [hq]) (by rw [hq]) rfl, by omega, rfl, hM2, hs267⟩)
           | (have hq := sums_c (l := l) (g := g.toNat) (h := ((Ha.ways l 0)[i]'hi2)) (k := q) (by rw [← hat q]; omega) (by rw [← hat q]; omega)
              exact ⟨q + 1, M2, iv3 (by rw [hq]) (by rw [hq]) rfl, by omega, rfl, hM2, hs267⟩)
      ·
       try simp only [Bool.not_eq_true', Bool.not_eq_false', decide_eq_true_eq, decide_eq_false_iff_not, Int.not_lt, Int.not_le] at h256
       refine w_exit ?_
       refine q_then_exit ?_
       refine q_then_exit ?_
       refine q_blk_this ?_
       refine q_then (hK245 _ _ ?_)
       refine w_region ?_
       refine w_pure want_none (y_fieldAddr (o := 0) (i := 0) Try.underlying34 rfl Try.sizeOf3 rfl rfl rfl) rfl ?_
       refine w_pure want_none (y_load1 Try.isAgg3 hs rfl rfl (ats_own (i := 1) (vs := [_]) rfl rfl)) rfl ?_
       refine w_pure want_none (y_move (v := .int _ _) rfl rfl) rfl ?_
       refine w_pure want_none (y_min2 rfl rfl rfl rfl) rfl ?_
       refine w_pure want_none (y_fieldAddr (o := 1) (i := 1) Try.underlying34 rfl Try.sizeOf3 rfl rfl rfl) rfl ?_
       refine w_pure want_none (y_load1 Try.isAgg3 hs rfl rfl (ats_own (i := 1) (vs := [_]) rfl rfl)) rfl ?_
       refine w_pure want_none (y_move (v := .int _ _) rfl rfl) rfl ?_
       refine w_pure want_none (y_max2 rfl rfl rfl rfl) rfl ?_
       refine w_pure want_none (y_build (ps := [(0, _), (1, _)]) (pv := [(0, .int _ _), (1, .int _ _)]) rfl rfl (fun w => Try_N_fb4 _ _ w)) rfl ?_
       refine w_store (i := 1) (v := .agg #[.int _ _, .int _ _]) (vs := [_, _]) want_none Try.sizeOf34 rfl rfl rfl rfl rfl (by simp [Value.oneCell']) hs rfl (Nat.le_of_ble_eq_true rfl) (fun w276 hs277 => ?_)
       refine w_nil ?_
       refine q_blk_normal ?_
       refine rd_normal (_ :: M) hs277.tail ?_
       have hqn : q = l.bunches.length := by omega
       subst hqn
       exact ⟨M, tot_cells (by rw [total_take hi2]; rfl) (by rw [total_take hi2]; rfl), hM⟩
    ·
     intro bd Bx w278 hJ hs
     obtain ⟨M, rfl, hM⟩ := hJ
     rw [List.length_map, List.length_map, List.take_length] at hs
     replace hs := (show St _ _ (_ :: _ :: (M ++ (_ :: _ :: _ :: _ :: _ :: _ :: _ :: F))) from hs)
     refine q_blk_normal ?_
     refine q_then (hK227 _ _ ?_)
     refine w_seq (fun K280 hK279 => ?_)
     refine w_region ?_
     refine w_pure want_none (y_loadN (vs := [_, _]) Try.isAgg34 Try.sizeOf34 hs rfl rfl (ats_own (i := 1) (vs := [_, _]) rfl rfl)) rfl ?_
     refine w_store (i := 1) (v := .agg #[.int _ _, .int _ _]) (vs := [_, _]) want_none Try.sizeOf34 rfl rfl rfl rfl rfl (by simp [Value.oneCell']) hs rfl (Nat.le_of_ble_eq_true rfl) (fun w281 hs282 => ?_)
     refine w_pure want_none (y_assign (v := _) rfl rfl) rfl ?_
     refine w_nil ?_
     refine q_then (hK279 _ _ ?_)
     refine w_ret ?_
     refine q_retM (i := 0) (l := [.cell 4 34, .tmp 5]) (vs := [_, _]) hs282 rfl rfl (fun w283 hs284 => ⟨⟨⟨rfl, _, rfl, run_loadVarN (vs := [_, _]) Try.isAgg34 Try.sizeOf34 hs284 (ats_own (i := 1) (vs := [_, _]) rfl rfl)⟩, ⟨rfl, show _ = (.int _ _ : Value) from rfl⟩, trivial⟩, ?_⟩)
     exact ⟨by unfold totalP; rw [if_neg (by simp [hee])]; rfl, hs284.tail.tail.drop.tail.tail.tail.tail.tail.tail.tail⟩
    ·
     intro _ _ _ _ hJ
     exact hJ.elim

end Go.Proofs
/- Walks of this seat, printed by gen.py over the engine: what each function returns, in whatever world. No conditions but those of each contract. -/
set_option linter.unusedVariables false
set_option linter.unusedSimpArgs false
set_option maxRecDepth 20000
namespace Go.Proofs
open Go.Rt Go.Rt.Ha
attribute [local irreducible] WL WC Con Yd At Ats Sl Agree DW
theorem Try_O_fb2 (x0 : Int) (w : World) : (Instr.buildSlice 37 1 [(0, .int .i64 x0)].toArray).run Try.prog w = .ok (.slice (some ⟨w.heap.size, 0, none⟩) 1 1) (w.alloc (Go.Rt.blk 3 [.int .i64 x0])) := by kernel_rfl
theorem pickE_1 {l : Lot} {g m : Int} (h : idxE g l.grades.length ≠ 0) : idxE g l.grades.length = pickE l g m := by unfold pickE; rw [if_pos h]
theorem pickE_2 {l : Lot} {g m : Int} (h : idxE g l.grades.length = 0) (h2 : out 0 72 m = true) : 7 = pickE l g m := by unfold pickE; rw [if_neg (by simp [h]), if_pos h2]
theorem pickE_3 {l : Lot} {g m : Int} (h : idxE g l.grades.length = 0) (h2 : out 0 72 m = false) : idxE g l.grades.length = pickE l g m := by unfold pickE; rw [if_neg (by simp [h]), if_neg (by simp [h2]), h]
theorem any1 {p : Int → Bool} {x : Int} {b : Bool} (h : [x].any p = b) : p x = b := by simpa using h
theorem c84 {w0 w : World} {F : List (Nat × Obj)} (l : Lot) (p : At3) (g m : Int) (hlg : l.grades.length ≤ 9223372036854775807) (bg bl bm : Nat) (h0 : Ats w0 F bg 0 [.int .i64 g]) (h1 : Ats w0 F bl 0 (l.cells p)) (h2 : Ats w0 F bm 0 [.int .i64 m]) (hs : St w0 w F) :
  Con Try.prog 84 [.pointer (some ⟨bg, 0, none⟩), .pointer (some ⟨bl, 0, none⟩), .pointer (some ⟨bm, 0, none⟩)] w fun v w' => v = .int .i64 (pickE l g m) ∧ St w0 w' F := by
  refine con_of_wc (n := 19) Try.func84 rfl rfl (Nat.le_of_ble_eq_true rfl) ?_
  refine w_seq (fun K2 hK1 => ?_)
  refine w_region ?_
  refine w_pure want_none (y_assign (v := _) rfl rfl) rfl ?_
  refine w_nil ?_
  refine q_then (hK1 _ _ ?_)
  refine w_seq (fun K4 hK3 => ?_)
  refine w_region ?_
  refine w_pure want_none (y_load1 Try.isAgg3 hs rfl rfl h0) rfl ?_
  refine w_pure want_none (y_fieldAddr (o := 0) (i := 0) Try.underlying26 rfl Try.sizeOf22 rfl rfl rfl) rfl ?_
  refine w_pure want_none (y_load1 Try.isAgg22 hs rfl rfl (show Ats _ _ _ _ [_] from Ats.part h1 0 1)) rfl ?_
  refine w_pure want_none (y_lenS Try.underlying22 rfl rfl) rfl ?_
  refine w_call want_none Try.call70 rfl rfl rfl rfl (c70 _ _ hs) ?_
  rintro _ w6 ⟨bb, bn, rfl, hs7⟩
  refine w_call want_none Try.call105 rfl rfl rfl rfl (c105 g l.grades.length _ _ (by omega) (ats_own (i := 0) (vs := [_]) rfl rfl) (ats_own (i := 1) (vs := [_]) rfl rfl) hs7) ?_
  rintro _ w9 ⟨rfl, hs10⟩
  refine w_pure want_none (y_assign (v := .int _ _) rfl rfl) rfl ?_
  refine w_nil ?_
  refine q_then (hK3 _ _ ?_)
  refine w_seq (fun K12 hK11 => ?_)
  refine w_seq (fun K14 hK13 => ?_)
  refine w_region ?_
  refine w_pure want_none (y_move (v := .int _ _) rfl rfl) rfl ?_
  refine w_pure want_none (y_eql rfl rfl rfl rfl) rfl ?_
  refine w_pure want_none (y_move (v := .bool _) rfl rfl) rfl ?_
  refine w_split (fun h15 => ?_) (fun h15 => ?_)
  ·
   try simp only [Bool.not_eq_true', Bool.not_eq_false', decide_eq_true_eq, decide_eq_false_iff_not, Int.not_lt, Int.not_le] at h15
   refine w_pure (want_yes rfl rfl rfl) (y_load1 Try.isAgg3 hs10.tail.tail rfl rfl h2) rfl ?_
   refine w_bslice (ps := [(0, _)]) (pv := [(0, .int _ _)]) (cs := [_]) (want_yes rfl rfl rfl) rfl rfl (fun w => Try_O_fb2 _ w) hs10 (fun b16 w17 hs18 => ?_)
   refine w_call (want_yes rfl rfl rfl) Try.call57 rfl rfl rfl rfl (c57 _ _ _ [_] _ (by simp) (sl_own (i := 0) (rows := [[_]]) rfl (by simp) rfl) hs18) ?_
   rintro _ w20 ⟨rfl, hs21⟩
   refine w_pure want_none (y_pickT (v := .bool _) rfl rfl rfl rfl) rfl ?_
   refine w_nil ?_
   refine q_then (hK13 _ _ ?_)
   refine w_cond rfl rfl (fun h22 => ?_) (fun h22 => ?_)
   ·
    try simp only [Bool.not_eq_true', Bool.not_eq_false', decide_eq_true_eq, decide_eq_false_iff_not, Int.not_lt, Int.not_le] at h22
    refine w_region ?_
    refine w_pure want_none (y_assign (v := _) rfl rfl) rfl ?_
    refine w_nil ?_
    refine q_then (hK11 _ _ ?_)
    refine w_seq (fun K24 hK23 => ?_)
    refine w_region ?_
    refine w_pure want_none (y_move (v := .int _ _) rfl rfl) rfl ?_
    refine w_pure want_none (y_assign (v := .int _ _) rfl rfl) rfl ?_
    refine w_nil ?_
    refine q_then (hK23 _ _ ?_)
    refine w_ret ?_
    refine q_ret (l := [.tmp 3]) (vs := [_]) rfl ⟨⟨rfl, show _ = (.int _ _ : Value) from rfl⟩, trivial⟩ ?_
    first
      | exact ⟨congrArg (Value.int .i64) (pickE_1 (by assumption)), hs21.tail.tail.tail⟩
      | exact ⟨congrArg (Value.int .i64) (pickE_2 (by assumption) (any1 (by assumption))), hs21.tail.tail.tail⟩
      | exact ⟨congrArg (Value.int .i64) (pickE_3 (by assumption) (any1 (by assumption))), hs21.tail.tail.tail⟩
   ·
    try simp only [Bool.not_eq_true', Bool.not_eq_false', decide_eq_true_eq, decide_eq_false_iff_not, Int.not_lt, Int.not_le] at h22
    refine w_skip ?_
    refine q_then (hK11 _ _ ?_)
    refine w_seq (fun K26 hK25 => ?_)
    refine w_region ?_
    refine w_pure want_none (y_move (v := .int _ _) rfl rfl) rfl ?_
    refine w_pure want_none (y_assign (v := .int _ _) rfl rfl) rfl ?_
    refine w_nil ?_
    refine q_then (hK25 _ _ ?_)
    refine w_ret ?_
    refine q_ret (l := [.tmp 3]) (vs := [_]) rfl ⟨⟨rfl, show _ = (.int _ _ : Value) from rfl⟩, trivial⟩ ?_
    first
      | exact ⟨congrArg (Value.int .i64) (pickE_1 (by assumption)), hs21.tail.tail.tail⟩
      | exact ⟨congrArg (Value.int .i64) (pickE_2 (by assumption) (any1 (by assumption))), hs21.tail.tail.tail⟩
      | exact ⟨congrArg (Value.int .i64) (pickE_3 (by assumption) (any1 (by assumption))), hs21.tail.tail.tail⟩
  ·
   try simp only [Bool.not_eq_true', Bool.not_eq_false', decide_eq_true_eq, decide_eq_false_iff_not, Int.not_lt, Int.not_le] at h15
   refine w_skipop rfl rfl rfl ?_
   refine w_skipop rfl rfl rfl ?_
   refine w_skipop rfl rfl rfl ?_
   refine w_pure want_none (y_pickF (v := _) rfl rfl rfl rfl) rfl ?_
   refine w_nil ?_
   refine q_then (hK13 _ _ ?_)
   refine w_condF rfl rfl ?_
   refine w_skip ?_
   refine q_then (hK11 _ _ ?_)
   refine w_seq (fun K28 hK27 => ?_)
   refine w_region ?_
   refine w_pure want_none (y_move (v := .int _ _) rfl rfl) rfl ?_
   refine w_pure want_none (y_assign (v := .int _ _) rfl rfl) rfl ?_
   refine w_nil ?_
   refine q_then (hK27 _ _ ?_)
   refine w_ret ?_
   refine q_ret (l := [.tmp 3]) (vs := [_]) rfl ⟨⟨rfl, show _ = (.int _ _ : Value) from rfl⟩, trivial⟩ ?_
   first
     | exact ⟨congrArg (Value.int .i64) (pickE_1 (by assumption)), hs10.tail.tail⟩
     | exact ⟨congrArg (Value.int .i64) (pickE_2 (by assumption) (any1 (by assumption))), hs10.tail.tail⟩
     | exact ⟨congrArg (Value.int .i64) (pickE_3 (by assumption) (any1 (by assumption))), hs10.tail.tail⟩

theorem diff_same {x y : Nat} (hx : x < 64) (hy : y < 64) : Go.Rt.bitDiff x y = Ha.bitDiff x y := by
  have key : ∀ x < 64, ∀ y < 64, Go.Rt.bitDiff x y = Ha.bitDiff x y := by decide +kernel
  exact key x hx y hy
theorem diff_small {a b : Nat} (h : a < 64) : Ha.bitDiff a b < 64 := Nat.lt_of_le_of_lt Nat.and_le_left h
theorem pick_no1 {l : Lot} {g : Nat} {m : Int} {b : Nat} (h : ¬ ((Ha.bitDiff b (fitTo l g (Ha.ways l 0) l.bunches.length) : Nat) : Int) = 0) : false = pickDo l g m b := by unfold pickDo; rw [decide_eq_false (by omega)]; rfl
theorem pick_all {l : Lot} {g : Nat} {m : Int} {b : Nat} {x : Bool} (h : ((Ha.bitDiff b (fitTo l g (Ha.ways l 0) l.bunches.length) : Nat) : Int) = 0) (h2 : ((Ha.ways l 0).all fun h => decide (m ≤ someOf h (listL b l.bunches.length))) = x) : x = pickDo l g m b := by unfold pickDo; rw [decide_eq_true (by omega), h2]; rfl
theorem fit_small {l : Lot} {g : Nat} {ws : List (List Int)} (h : l.bunches.length ≤ 6) : ∀ k, k ≤ 6 → fitTo l g ws k < 64 := by
  intro k hk
  have h1 := fit_lt l g ws k
  have h2 : 2 ^ k ≤ 2 ^ 6 := Nat.pow_le_pow_right (by omega) hk
  omega
theorem c86 {w0 w : World} {F : List (Nat × Obj)} (l : Lot) (p : At3) (lb mm : Nat) (hk : LK w0 F l p 0 lb mm) (g m : Int) (b : Nat) (hb : b < 64) (bf bl bc bm : Nat) (h1 : Ats w0 F bf 0 [.int .i64 ((fitTo l g.toNat (Ha.ways l 0) l.bunches.length) : Int)]) (h2 : Ats w0 F bl 0 [.pointer (some ⟨lb, 0, none⟩)]) (h3 : Ats w0 F bc 0 (l.cells p)) (h4 : Ats w0 F bm 0 [.int .i64 m]) (hs : St w0 w F) :
  Con Try.prog 86 [.int .i64 (b : Int), .pointer (some ⟨bf, 0, none⟩), .pointer (some ⟨bl, 0, none⟩), .pointer (some ⟨bc, 0, none⟩), .pointer (some ⟨bm, 0, none⟩)] w fun v w' => v = .bool (pickDo l g.toNat m b) ∧ St w0 w' F := by
  refine con_of_wcM (n := 37) Try.func86 rfl rfl (Nat.le_of_ble_eq_true rfl) ?_
  have hlb := hk.ok.lb
  have hft := fit_small (l := l) (g := g.toNat) (ws := (Ha.ways l 0)) hlb l.bunches.length hlb
  refine w_seq (fun K2 hK1 => ?_)
  refine w_region ?_
  refine w_box (v := .int _ _) (cs := [_]) want_none rfl rfl rfl hs (fun b3 w4 hs5 => ?_)
  refine w_alloc (cs := [_]) want_none Try.zeroValue4 rfl hs5 (fun b6 w7 hs8 => ?_)
  refine w_nil ?_
  refine q_then (hK1 _ _ ?_)
  refine w_seq (fun K10 hK9 => ?_)
  refine w_seq (fun K12 hK11 => ?_)
  refine w_region ?_
  refine w_pure want_none (y_load1 Try.isAgg3 hs8 rfl rfl (ats_own (i := 1) (vs := [_]) rfl rfl)) rfl ?_
  refine w_pure want_none (y_load1 Try.isAgg3 hs8.tail.tail rfl rfl h1) rfl ?_
  refine w_pure want_none (yd_cast (z' := ((Ha.bitDiff b (fitTo l g.toNat (Ha.ways l 0) l.bunches.length) : Nat) : Int)) (by rw [diff_same hb hft]) (y_andNot (x := b) (y := (fitTo l g.toNat (Ha.ways l 0) l.bunches.length)) rfl rfl rfl rfl (by first | rfl | omega) (by first | rfl | omega) (by first | omega | exact shr_lt (by omega)))) rfl ?_
  refine w_pure want_none (y_neq rfl rfl rfl rfl) rfl ?_
  refine w_nil ?_
  refine q_then (hK11 _ _ ?_)
  refine w_cond rfl rfl (fun h13 => ?_) (fun h13 => ?_)
  ·
   try simp only [Bool.not_eq_true', Bool.not_eq_false', decide_eq_true_eq, decide_eq_false_iff_not, Int.not_lt, Int.not_le] at h13
   refine w_seq (fun K15 hK14 => ?_)
   refine w_region ?_
   refine w_store (i := 0) (v := .bool _) (vs := [_]) want_none Try.sizeOf4 rfl rfl rfl rfl rfl (by simp [Value.oneCell']) hs8 rfl (Nat.le_of_ble_eq_true rfl) (fun w16 hs17 => ?_)
   refine w_nil ?_
   refine q_then (hK14 _ _ ?_)
   refine w_ret ?_
   refine q_then_ret ?_
   refine q_retM0 (l := [.cell 6 4]) (vs := [_]) rfl ⟨⟨rfl, _, rfl, run_loadVar1 Try.isAgg4 hs17 (ats_own (i := 0) (vs := [_]) rfl rfl)⟩, trivial⟩ ?_
   first
     | exact ⟨congrArg Value.bool (pick_no1 (by assumption)), hs17.tail.tail⟩
     | exact ⟨congrArg Value.bool (pick_all (by assumption) hal), hs17.tail.tail⟩
  ·
   try simp only [Bool.not_eq_true', Bool.not_eq_false', decide_eq_true_eq, decide_eq_false_iff_not, Int.not_lt, Int.not_le] at h13
   refine w_skip ?_
   refine q_then (hK9 _ _ ?_)
   refine w_seq (fun K19 hK18 => ?_)
   refine w_seq (fun K21 hK20 => ?_)
   refine w_region ?_
   refine w_pure want_none (y_load1 Try.isAgg104 hs8.tail.tail rfl rfl h2) rfl ?_
   refine w_call want_none Try.call78 rfl rfl rfl rfl (c78 _ hs8) ?_
   rintro _ w23 ⟨bp, rfl, hs24⟩
   refine w_nil ?_
   refine q_then (hK20 _ _ ?_)
   refine w_block ?_
   refine w_range ([_]) (fun i Bx => Bx = [(b6, blk 4 [.bool false])] ∧ ((Ha.ways l 0).take i).all (fun h => decide (m ≤ someOf h (listL b l.bunches.length))) = true) (fun c Bx => c = .ret ∧ Bx = [(b6, blk 4 [.bool false])] ∧ (Ha.ways l 0).all (fun h => decide (m ≤ someOf h (listL b l.bunches.length))) = false) rfl rfl rfl Try.call106 (ways_iter l p 0 lb mm hk.cons.cons bp (ats_own (i := 0) (vs := [_]) rfl rfl)) hs24 (List.Perm.swap _ _ _) ⟨rfl, rfl⟩ ?_ ?_ ?_
   ·
    intro lp i hi Bx Xr Xr2 w26 hJ hs K hK25
    obtain ⟨rfl, hal⟩ := hJ
    have hi2 : i < (Ha.ways l 0).length := by simpa using hi
    rw [List.getElem_map, List.getElem_map]
    have hpl := padw_len hk.ok (List.mem_map.2 ⟨_, List.getElem_mem hi2, rfl⟩)
    have hat := pad6_at (Ha.ways l 0)[i]
    have hwi := way_in hk.ok (List.getElem_mem hi2)
    obtain ⟨h, hh⟩ : ∃ h, h = pad6 (Ha.ways l 0)[i] := ⟨_, rfl⟩
    rw [← hh] at hpl hat ⊢
    have hh6 := hpl.1
    have hx5 : Ats w0 ((bp, blk 104 [.pointer (some ⟨lb, 0, none⟩)]) :: (b3, blk 3 [.int .i64 (b : Int)]) :: F) b3 0 [.int .i64 (b : Int)] := ats_own (i := 1) rfl rfl
    replace hs := (show St _ _ (_ :: (Xr ++ (_ :: _ :: F))) from hs)
    refine w_region ?_
    refine w_alloc (cs := iv [0, 0, 0, 0, 0, 0]) want_none Try.zeroValue121 rfl hs (fun b27 w28 hs29 => ?_)
    refine w_storeI (i := 0) (l := _) want_none Try.sizeOf121 (by first | omega | rfl | (simp only [hh6, List.length_map, List.length_set, List.length_append, List.length_take, List.length_drop, List.length_replicate, List.length_cons, List.length_nil] <;> omega)) rfl rfl rfl rfl rfl hs29 rfl (by first | omega | rfl | (simp only [hh6, List.length_map, List.length_set, List.length_append, List.length_take, List.length_drop, List.length_replicate, List.length_cons, List.length_nil] <;> omega)) (fun w30 hs31 => ?_)
    refine w_nil ?_
    refine q_then (hK25 _ _ (_ :: _ :: []) hs31 (fun w32 hs33 => ?_))
    replace hs33 := (show St _ _ (_ :: _ :: Xr2 ++ (_ :: _ :: F)) from hs33)
    refine w_block ?_
    refine w_seq (fun K35 hK34 => ?_)
    refine w_region ?_
    refine w_pure want_none (y_assign (v := _) rfl rfl) rfl ?_
    refine w_nil ?_
    refine q_then (hK34 _ _ ?_)
    refine w_seq (fun K37 hK36 => ?_)
    refine w_seq (fun K39 hK38 => ?_)
    refine w_region ?_
    refine w_pure want_none (y_load1 Try.isAgg3 hs33.tail.tail.drop rfl rfl hx5) rfl ?_
    refine w_pure want_none (y_fieldAddr (o := 1) (i := 1) Try.underlying26 rfl Try.sizeOf23 rfl rfl rfl) rfl ?_
    refine w_pure want_none (y_load1 Try.isAgg23 hs33.tail.tail.drop.tail.tail rfl rfl (show Ats _ _ _ _ [_] from Ats.part h3 1 1)) rfl ?_
    refine w_pure want_none (y_lenS Try.underlying23 rfl rfl) rfl ?_
    refine w_call want_none Try.call75 rfl rfl rfl rfl (c75 _ _ (by omega) (by omega) hs33) ?_
    rintro _ w41 ⟨Bl, hown, hs42⟩
    have hs43 := St.perm (L := Bl ++ ([_, _] ++ (Xr2 ++ (_ :: _ :: F)))) hs42 (perm_mid Bl [_, _] _)
    replace hs43 := (show St _ _ (_ :: _ :: (Bl ++ (Xr2 ++ (_ :: _ :: F)))) from hs43)
    obtain ⟨aL, cL, rfl, hslL, _, _⟩ := own_ints (w0 := w0) hown
    have hll := listL_le b l.bunches.length
    refine w_pure want_none (y_lenS Try.underlying37 rfl rfl) rfl ?_
    refine w_pure want_none (y_move (v := _) rfl rfl) rfl ?_
    refine w_nil ?_
    refine q_then (hK38 _ _ ?_)
    refine w_block ?_
    refine w_loop [8, 10, 24, 25, 26, 27, 28, 29, 30, 31, 32, 33] [8, 24] (fun k vs w => ∃ (q : Nat), vs = [.int .i64 (someOf ((Ha.ways l 0)[i]'hi2) ((listL b l.bunches.length).take q)), .int .i64 q] ∧ q ≤ (listL b l.bunches.length).length ∧ k = (listL b l.bunches.length).length - q ∧ St w0 w ((b27, blk 121 (iv h)) :: (b6, blk 4 [.bool false]) :: (Bl ++ (Xr2 ++ ((bp, blk 104 [.pointer (some ⟨lb, 0, none⟩)]) :: (b3, blk 3 [.int .i64 (b : Int)]) :: F))))) ((listL b l.bunches.length).length) ?_ ?_
    ·
     exact ⟨0, rfl, by omega, by omega, hs43⟩
    ·
     intro k vs μ w46 hI K45 hN44
     obtain ⟨q, rfl, hqa, rfl, hs⟩ := hI
     refine w_seq (fun K48 hK47 => ?_)
     refine w_region ?_
     refine w_pure want_none (y_lss rfl rfl rfl rfl) rfl ?_
     refine w_nil ?_
     refine q_then (hK47 _ _ ?_)
     refine w_seq (fun K50 hK49 => ?_)
     refine w_cond rfl rfl (fun h51 => ?_) (fun h51 => ?_)
     ·
      try simp only [Bool.not_eq_true', Bool.not_eq_false', decide_eq_true_eq, decide_eq_false_iff_not, Int.not_lt, Int.not_le] at h51
      refine w_skip ?_
      refine q_then (hK49 _ _ ?_)
      refine w_seq (fun K53 hK52 => ?_)
      refine w_block ?_
      refine w_seq (fun K55 hK54 => ?_)
      have hq2 : q < (listL b l.bunches.length).length := by omega
      obtain ⟨bq, oq, hbq, hxq0⟩ := sl_ints hslL hq2
      subst hbq
      have hxq := hxq0.top (F := Xr2 ++ ((bp, blk 104 [.pointer (some ⟨lb, 0, none⟩)]) :: (b3, blk 3 [.int .i64 (b : Int)]) :: F))
      have hzi := listL_in b l.bunches.length _ (List.getElem_mem hq2)
      have hsi := someOf_in hwi ((listL b l.bunches.length).take q)
      have hsl : ((listL b l.bunches.length).take q).length = q := by rw [List.length_take]; omega
      have hgz := hwi ((listL b l.bunches.length)[q]'hq2).toNat
      rw [← hat] at hgz
      refine w_region ?_
      refine w_pure want_none (y_indexS Try.underlying37 Try.sizeOf3 rfl rfl rfl rfl (i := _) rfl (by omega)) rfl ?_
      refine w_pure want_none (y_load1 Try.isAgg3 hs.tail.tail rfl rfl hxq) rfl ?_
      refine w_pure want_none (y_assign (v := .int _ _) rfl rfl) rfl ?_
      refine w_nil ?_
      refine q_then (hK54 _ _ ?_)
      refine w_region ?_
      refine w_pure want_none (y_move (v := .int _ _) rfl rfl) rfl ?_
      refine w_pure want_none (y_move (v := .int _ _) rfl rfl) rfl ?_
      refine w_pure want_none (y_indexA Try.underlying121 Try.sizeOf3 rfl rfl rfl rfl (i := ((listL b l.bunches.length)[q]'hq2).toNat) (by first | rfl | omega) (by omega)) rfl ?_
      refine w_pure want_none (y_load1 Try.isAgg3 hs rfl rfl (ats_ints (i := 0) (j := ((listL b l.bunches.length)[q]'hq2).toNat) rfl (by first | omega | rfl | (simp only [hh6, List.length_map, List.length_set, List.length_append, List.length_take, List.length_drop, List.length_replicate, List.length_cons, List.length_nil] <;> omega)))) rfl ?_
      refine w_pure want_none (y_add rfl rfl rfl rfl (by omega) (by omega)) rfl ?_
      refine w_pure want_none (y_assign (v := .int _ _) rfl rfl) rfl ?_
      refine w_nil ?_
      refine q_blk_normal ?_
      refine q_then (hK52 _ _ ?_)
      refine w_region ?_
      refine w_pure want_none (y_add rfl rfl rfl rfl (by omega) (by omega)) rfl ?_
      refine w_pure want_none (y_move (v := .int _ _) rfl rfl) rfl ?_
      refine w_nil ?_
      refine q_then (hN44 _ _ (Nx.intro ((listL b l.bunches.length).length - (q + 1)) (by omega) (by repeat (first | exact agree_mix | refine agree_upd rfl ?_ | refine agree_updL rfl ?_ _ | refine agree_mixin rfl ?_)) ?_))
      exact ⟨q + 1, iv2 (by rw [List.take_succ_eq_append_getElem hq2, someOf_snoc, ← hat]) rfl, by omega, rfl, hs⟩
     ·
      try simp only [Bool.not_eq_true', Bool.not_eq_false', decide_eq_true_eq, decide_eq_false_iff_not, Int.not_lt, Int.not_le] at h51
      refine w_exit ?_
      refine q_then_exit ?_
      refine q_then_exit ?_
      refine q_blk_this ?_
      refine q_then (hK36 _ _ ?_)
      refine w_seq (fun K57 hK56 => ?_)
      have hqe : q = (listL b l.bunches.length).length := by omega
      have hte : (listL b l.bunches.length).take q = (listL b l.bunches.length) := by rw [List.take_of_length_le (by omega)]
      rw [hte]
      have hs58 := (St.perm (L := [_, _] ++ (Bl ++ (Xr2 ++ (_ :: _ :: F)))) hs (perm_mid [_, _] Bl _)).drop
      replace hs58 := (show St _ _ (_ :: _ :: (Xr2 ++ (_ :: _ :: F))) from hs58)
      refine w_region ?_
      refine w_pure want_none (y_move (v := .int _ _) rfl rfl) rfl ?_
      refine w_pure want_none (y_load1 Try.isAgg3 hs58.tail.tail.drop.tail.tail rfl rfl h4) rfl ?_
      refine w_pure want_none (y_lss rfl rfl rfl rfl) rfl ?_
      refine w_nil ?_
      refine q_then (hK56 _ _ ?_)
      refine w_cond rfl rfl (fun h59 => ?_) (fun h59 => ?_)
      ·
       try simp only [Bool.not_eq_true', Bool.not_eq_false', decide_eq_true_eq, decide_eq_false_iff_not, Int.not_lt, Int.not_le] at h59
       refine w_seq (fun K61 hK60 => ?_)
       refine w_region ?_
       refine w_store (i := 1) (v := .bool _) (vs := [_]) want_none Try.sizeOf4 rfl rfl rfl rfl rfl (by simp [Value.oneCell']) hs58 rfl (Nat.le_of_ble_eq_true rfl) (fun w62 hs63 => ?_)
       refine w_nil ?_
       refine q_then (hK60 _ _ ?_)
       refine w_ret ?_
       refine q_blk_ret ?_
       refine rd_ret (_ :: []) hs63.tail ?_
       exact ⟨rfl, rfl, all_not hi2 (decide_eq_false (by omega))⟩
      ·
       try simp only [Bool.not_eq_true', Bool.not_eq_false', decide_eq_true_eq, decide_eq_false_iff_not, Int.not_lt, Int.not_le] at h59
       refine w_skip ?_
       refine q_blk_normal ?_
       refine rd_normal (_ :: []) hs58.tail ?_
       exact ⟨rfl, all_take hi2 hal (decide_eq_true (by omega))⟩
   ·
    intro bd Bx w64 hJ hs
    obtain ⟨rfl, hal⟩ := hJ
    rw [List.length_map, List.length_map, List.take_length] at hal
    refine q_blk_normal ?_
    refine q_then (hK18 _ _ ?_)
    refine w_seq (fun K66 hK65 => ?_)
    refine w_region ?_
    refine w_store (i := 1) (v := .bool _) (vs := [_]) want_none Try.sizeOf4 rfl rfl rfl rfl rfl (by simp [Value.oneCell']) hs rfl (Nat.le_of_ble_eq_true rfl) (fun w67 hs68 => ?_)
    refine w_nil ?_
    refine q_then (hK65 _ _ ?_)
    refine w_ret ?_
    refine q_retM (i := 0) (l := [.cell 6 4]) (vs := [_]) hs68 rfl rfl (fun w69 hs70 => ⟨⟨⟨rfl, _, rfl, run_loadVar1 Try.isAgg4 hs70 (ats_own (i := 1) (vs := [_]) rfl rfl)⟩, trivial⟩, ?_⟩)
    first
      | exact ⟨congrArg Value.bool (pick_no1 (by assumption)), hs70.tail.tail.tail.tail⟩
      | exact ⟨congrArg Value.bool (pick_all (by assumption) hal), hs70.tail.tail.tail.tail⟩
   ·
    intro bd c Bx w71 hJ hs
    obtain ⟨rfl, rfl, hal⟩ := hJ
    refine w_ret ?_
    refine q_blk_ret ?_
    refine q_then_ret ?_
    refine q_retM (i := 0) (l := [.cell 6 4]) (vs := [_]) hs rfl rfl (fun w72 hs73 => ⟨⟨⟨rfl, _, rfl, run_loadVar1 Try.isAgg4 hs73 (ats_own (i := 1) (vs := [_]) rfl rfl)⟩, trivial⟩, ?_⟩)
    first
      | exact ⟨congrArg Value.bool (pick_no1 (by assumption)), hs73.tail.tail.tail.tail⟩
      | exact ⟨congrArg Value.bool (pick_all (by assumption) hal), hs73.tail.tail.tail.tail⟩

end Go.Proofs
/- Walks of this seat, printed by gen.py over the engine: what each function returns, in whatever world. No conditions but those of each contract. -/
set_option linter.unusedVariables false
set_option linter.unusedSimpArgs false
set_option maxRecDepth 20000
namespace Go.Proofs
open Go.Rt Go.Rt.Ha
attribute [local irreducible] WL WC Con Yd At Ats Sl Agree DW

theorem fit_skip {l : Lot} {g : Nat} {ws : List (List Int)} {i : Nat} (h : ((setW l i ws &&& 1 : Nat) : Int) = 1 ∨ (0 : Int) < ((setW l i ws >>> (g + 2) : Nat) : Int)) : fitTo l g ws (i + 1) = fitTo l g ws i := by simp only [fitTo]; rw [if_pos (by omega)]
theorem fit_add {l : Lot} {g : Nat} {ws : List (List Int)} {i : Nat} (h : ¬ ((setW l i ws &&& 1 : Nat) : Int) = 1) (h2 : ((setW l i ws >>> (g + 2) : Nat) : Int) ≤ 0) : fitTo l g ws (i + 1) = fitTo l g ws i ||| 1 <<< i := by simp only [fitTo]; rw [if_neg (by omega)]
theorem shl_32 {i : Nat} (h : i < 6) : 1 <<< i < 64 := by
  match i, h with
  | 0, _ => decide
  | 1, _ => decide
  | 2, _ => decide
  | 3, _ => decide
  | 4, _ => decide
  | 5, _ => decide
theorem c30 {w0 w : World} {F : List (Nat × Obj)} (l : Lot) (p : At3) (hm : LIn w0 F l p) (g m : Int) (hs : St w0 w F) :
  Con Try.prog 30 [.agg (l.cells p).toArray, .int .i64 g, .int .i64 m] w fun v w' => ∃ B a c, v = .tuple #[.slice a (pickP l g m).1.length c, .int .i64 (pickP l g m).2] ∧ Sl w0 B a 1 ((pickP l g m).1.map fun x => [Value.int .i64 x]) ∧ St w0 w' (B ++ F) := by
  refine con_of_wc (n := 63) Try.func30 rfl rfl (Nat.le_of_ble_eq_true rfl) ?_
  have hlb0 := hm.lb
  refine w_seq (fun K2 hK1 => ?_)
  refine w_region ?_
  refine w_box (v := .agg #[.slice _ _ _, .slice _ _ _, .slice _ _ _]) (cs := [_, _, _]) want_none rfl rfl rfl hs (fun b3 w4 hs5 => ?_)
  refine w_box (v := .int _ _) (cs := [_]) want_none rfl rfl rfl hs5 (fun b6 w7 hs8 => ?_)
  refine w_box (v := .int _ _) (cs := [_]) want_none rfl rfl rfl hs8 (fun b9 w10 hs11 => ?_)
  refine w_pure want_none (y_assign (v := _) rfl rfl) rfl ?_
  refine w_pure want_none (y_assign (v := _) rfl rfl) rfl ?_
  refine w_nil ?_
  refine q_then (hK1 _ _ ?_)
  refine w_scope ?_
  refine w_seq (fun K13 hK12 => ?_)
  refine w_region ?_
  refine w_pure want_none (y_loadN (vs := [_, _, _]) Try.isAgg26 Try.sizeOf26 hs11 rfl rfl (ats_own (i := 2) (vs := [_, _, _]) rfl rfl)) rfl ?_
  refine w_pure want_none (y_makeFunc (fv := []) (cv := [_, _, _]) rfl rfl rfl rfl) rfl ?_
  refine w_call want_none Try.call69 rfl rfl rfl rfl (c69 l p hm.cons.cons.cons (.func (.func 84) #[] #[.pointer (some ⟨b6, 0, none⟩), .pointer (some ⟨b3, 0, none⟩), .pointer (some ⟨b9, 0, none⟩)]) (pickE l g m) (fun X w hs => fcon_fn Try.call84 (c84 l p g m hm.lg _ _ _ (Ats.app (ats_own (i := 1) (vs := [_]) rfl rfl)) (Ats.app (ats_own (i := 2) (vs := l.cells p) rfl rfl)) (Ats.app (ats_own (i := 0) (vs := [_]) rfl rfl)) hs)) hs11) ?_
  rintro _ w15 (⟨hee, rfl, hs16⟩ | ⟨hee, lb, mm, M, rfl, hM, hs16⟩)
  ·
   refine w_pure want_none (y_move (v := .tuple _) rfl rfl) rfl ?_
   refine w_pure want_none (y_extract (v := .pointer _) rfl rfl rfl) rfl ?_
   refine w_pure want_none (y_extract (v := .int _ _) rfl rfl rfl) rfl ?_
   refine w_alloc (cs := [_]) want_none Try.zeroValue104 rfl hs16 (fun b17 w18 hs19 => ?_)
   refine w_store (i := 0) (v := .pointer _) (vs := [_]) want_none Try.sizeOf104 rfl rfl rfl rfl rfl (by simp [Value.oneCell']) hs19 rfl (Nat.le_of_ble_eq_true rfl) (fun w20 hs21 => ?_)
   refine w_pure want_none (y_assign (v := .int _ _) rfl rfl) rfl ?_
   refine w_nil ?_
   refine q_then (hK12 _ _ ?_)
   refine w_seq (fun K23 hK22 => ?_)
   refine w_seq (fun K25 hK24 => ?_)
   refine w_region ?_
   refine w_pure want_none (y_move (v := .int _ _) rfl rfl) rfl ?_
   refine w_pure want_none (y_neq rfl rfl rfl rfl) rfl ?_
   refine w_nil ?_
   refine q_then (hK24 _ _ ?_)
   refine w_cond rfl rfl (fun h26 => ?_) (fun h26 => ?_)
   ·
    try simp only [Bool.not_eq_true', Bool.not_eq_false', decide_eq_true_eq, decide_eq_false_iff_not, Int.not_lt, Int.not_le] at h26
    refine w_seq (fun K28 hK27 => ?_)
    refine w_region ?_
    refine w_pure want_none (y_move (v := .int _ _) rfl rfl) rfl ?_
    refine w_pure want_none (y_assign (v := _) rfl rfl) rfl ?_
    refine w_pure want_none (y_assign (v := .int _ _) rfl rfl) rfl ?_
    refine w_nil ?_
    refine q_then (hK27 _ _ ?_)
    refine w_ret ?_
    refine q_then_ret ?_
    refine q_ng_ret ?_
    refine q_ret (l := [.tmp 6, .tmp 7]) (vs := [_, _]) rfl ⟨⟨rfl, show _ = (.slice _ _ _ : Value) from rfl⟩, ⟨rfl, show _ = (.int _ _ : Value) from rfl⟩, trivial⟩ ?_
    have hq : pickP l g m = ([], enterE l (pickE l g m)) := by unfold pickP; rw [if_pos hee]
    exact ⟨[], none, 0, by rw [hq]; rfl, by rw [hq]; exact Sl.nil _ _, hs21.tail.tail.tail.tail⟩
   ·
    exfalso
    try simp only [Bool.not_eq_true', Bool.not_eq_false', decide_eq_true_eq, decide_eq_false_iff_not, Int.not_lt, Int.not_le] at h26
    first | exact hee h26 | exact h26 hee
  ·
   replace hs16 := (show St _ _ (M ++ (_ :: _ :: _ :: _ :: F)) from hs16)
   have hk := lk_new hs16 hm.cons.cons.cons (enterE_zero hee).1
   have hew := enterE_zero hee
   have hbt := hk.bt
   have hlg := hk.ok.lg
   have hlb := hk.ok.lb
   have hlc := hk.ok.lc
   refine w_pure want_none (y_move (v := .tuple _) rfl rfl) rfl ?_
   refine w_pure want_none (y_extract (v := .pointer _) rfl rfl rfl) rfl ?_
   refine w_pure want_none (y_extract (v := .int _ _) rfl rfl rfl) rfl ?_
   refine w_alloc (cs := [_]) want_none Try.zeroValue104 rfl hs16 (fun b29 w30 hs31 => ?_)
   refine w_store (i := 0) (v := .pointer _) (vs := [_]) want_none Try.sizeOf104 rfl rfl rfl rfl rfl (by simp [Value.oneCell']) hs31 rfl (Nat.le_of_ble_eq_true rfl) (fun w32 hs33 => ?_)
   refine w_pure want_none (y_assign (v := .int _ _) rfl rfl) rfl ?_
   refine w_nil ?_
   refine q_then (hK12 _ _ ?_)
   refine w_seq (fun K35 hK34 => ?_)
   refine w_seq (fun K37 hK36 => ?_)
   refine w_region ?_
   refine w_pure want_none (y_move (v := .int _ _) rfl rfl) rfl ?_
   refine w_pure want_none (y_neq rfl rfl rfl rfl) rfl ?_
   refine w_nil ?_
   refine q_then (hK36 _ _ ?_)
   refine w_condF rfl rfl ?_
   refine w_skip ?_
   refine q_then (hK34 _ _ ?_)
   refine w_seq (fun K39 hK38 => ?_)
   refine w_region ?_
   refine w_alloc (cs := [_]) want_none Try.zeroValue3 rfl hs33 (fun b40 w41 hs42 => ?_)
   refine w_store (i := 0) (v := .int _ _) (vs := [_]) want_none Try.sizeOf3 rfl rfl rfl rfl rfl (by simp [Value.oneCell']) hs42 rfl (Nat.le_of_ble_eq_true rfl) (fun w43 hs44 => ?_)
   refine w_nil ?_
   refine q_then (hK38 _ _ ?_)
   refine w_seq (fun K46 hK45 => ?_)
   refine w_label ?_
   refine q_then (hK45 _ _ ?_)
   refine w_seq (fun K48 hK47 => ?_)
   refine w_seq (fun K50 hK49 => ?_)
   have hx3 : Ats w0 ((lb, blk 145 [.slice p.ag l.grades.length p.cg, .slice p.ab l.bunches.length p.cb, .slice p.ac l.counts.length p.cc, .int .i64 ((0 : Nat) : Int), .map (some mm)]) :: (b9, blk 3 [.int .i64 m]) :: (b6, blk 3 [.int .i64 g]) :: (b3, blk 26 (l.cells p)) :: F) b3 0 (l.cells p) := ats_own (i := 3) rfl rfl
   have hx4 : Ats w0 ((lb, blk 145 [.slice p.ag l.grades.length p.cg, .slice p.ab l.bunches.length p.cb, .slice p.ac l.counts.length p.cc, .int .i64 ((0 : Nat) : Int), .map (some mm)]) :: (b9, blk 3 [.int .i64 m]) :: (b6, blk 3 [.int .i64 g]) :: (b3, blk 26 (l.cells p)) :: F) b6 0 [.int .i64 g] := ats_own (i := 2) rfl rfl
   have hx5 : Ats w0 ((lb, blk 145 [.slice p.ag l.grades.length p.cg, .slice p.ab l.bunches.length p.cb, .slice p.ac l.counts.length p.cc, .int .i64 ((0 : Nat) : Int), .map (some mm)]) :: (b9, blk 3 [.int .i64 m]) :: (b6, blk 3 [.int .i64 g]) :: (b3, blk 26 (l.cells p)) :: F) b9 0 [.int .i64 m] := ats_own (i := 1) rfl rfl
   have hpe := pickE_zero hew.2.1
   refine w_region ?_
   refine w_pure want_none (y_fieldAddr (o := 1) (i := 1) Try.underlying26 rfl Try.sizeOf23 rfl rfl rfl) rfl ?_
   refine w_pure want_none (y_load1 Try.isAgg23 hs44.tail.tail.drop rfl rfl (show Ats _ _ _ _ [_] from Ats.part hx3 1 1)) rfl ?_
   refine w_pure want_none (y_lenS Try.underlying23 rfl rfl) rfl ?_
   refine w_pure want_none (y_move (v := _) rfl rfl) rfl ?_
   refine w_nil ?_
   refine q_then (hK49 _ _ ?_)
   refine w_block ?_
   refine w_loop [11, 12, 13, 28, 29, 30, 31, 32, 33, 34, 35, 36, 37, 38, 39, 40, 41, 42, 43, 44, 45, 46, 47, 48, 49, 50, 51] [28] (fun k vs w => ∃ (i : Nat) (M : List (Nat × Obj)), vs = [.int .i64 i] ∧ i ≤ l.bunches.length ∧ k = l.bunches.length - i ∧ Memo l mm M ∧ St w0 w ((b40, blk 3 [.int .i64 ((fitTo l g.toNat (Ha.ways l 0) i) : Int)]) :: (b29, blk 104 [.pointer (some ⟨lb, 0, none⟩)]) :: (M ++ ((lb, blk 145 [.slice p.ag l.grades.length p.cg, .slice p.ab l.bunches.length p.cb, .slice p.ac l.counts.length p.cc, .int .i64 ((0 : Nat) : Int), .map (some mm)]) :: (b9, blk 3 [.int .i64 m]) :: (b6, blk 3 [.int .i64 g]) :: (b3, blk 26 (l.cells p)) :: F)))) (l.bunches.length) ?_ ?_
   ·
    exact ⟨0, M, rfl, by omega, by omega, hM, hs44⟩
   ·
    intro k vs μ w53 hI K52 hN51
    obtain ⟨i, M, rfl, hia, rfl, hM, hs⟩ := hI
    refine w_seq (fun K55 hK54 => ?_)
    refine w_region ?_
    refine w_pure want_none (y_lss rfl rfl rfl rfl) rfl ?_
    refine w_nil ?_
    refine q_then (hK54 _ _ ?_)
    refine w_seq (fun K57 hK56 => ?_)
    refine w_cond rfl rfl (fun h58 => ?_) (fun h58 => ?_)
    ·
     try simp only [Bool.not_eq_true', Bool.not_eq_false', decide_eq_true_eq, decide_eq_false_iff_not, Int.not_lt, Int.not_le] at h58
     refine w_skip ?_
     refine q_then (hK56 _ _ ?_)
     refine w_seq (fun K60 hK59 => ?_)
     refine w_block ?_
     refine w_seq (fun K62 hK61 => ?_)
     refine w_region ?_
     refine w_pure want_none (y_move (v := .int _ _) rfl rfl) rfl ?_
     refine w_pure want_none (y_assign (v := .int _ _) rfl rfl) rfl ?_
     refine w_nil ?_
     refine q_then (hK61 _ _ ?_)
     refine w_seq (fun K64 hK63 => ?_)
     have hi2 : i < l.bunches.length := by omega
     have hsw := setW_lt hk.ok i (Ha.ways l 0)
     have hft := fit_small (l := l) (g := g.toNat) (ws := (Ha.ways l 0)) hk.ok.lb i (by omega)
     have hs32 := shl_32 (i := i) (by omega)
     refine w_region ?_
     refine w_pure want_none (y_load1 Try.isAgg104 hs rfl rfl (ats_own (i := 1) (vs := [_]) rfl rfl)) rfl ?_
     refine w_pure want_none (y_move (v := .int _ _) rfl rfl) rfl ?_
     refine w_call want_none Try.call71 rfl rfl rfl rfl (c71 (X := (_ :: _ :: [])) l _ 0 lb mm hk i hi2 hM hs) ?_
     rintro _ w66 ⟨rfl, M68, hM68, hs67⟩
     replace hs67 := (show St _ _ (_ :: _ :: M68 ++ (_ :: _ :: _ :: _ :: F)) from hs67)
     refine w_pure want_none (y_move (v := .tuple _) rfl rfl) rfl ?_
     refine w_pure want_none (y_extract (v := .agg _) rfl rfl rfl) rfl ?_
     refine w_pure want_none (y_extract (v := .int _ _) rfl rfl rfl) rfl ?_
     refine w_alloc (cs := [_, _]) want_none Try.zeroValue34 rfl hs67 (fun b69 w70 hs71 => ?_)
     refine w_store (i := 0) (v := .agg #[.int _ _, .int _ _]) (vs := [_, _]) want_none Try.sizeOf34 rfl rfl rfl rfl rfl (by simp [Value.oneCell']) hs71 rfl (Nat.le_of_ble_eq_true rfl) (fun w72 hs73 => ?_)
     refine w_pure want_none (y_assign (v := .int _ _) rfl rfl) rfl ?_
     refine w_nil ?_
     refine q_then (hK63 _ _ ?_)
     refine w_seq (fun K75 hK74 => ?_)
     refine w_seq (fun K77 hK76 => ?_)
     refine w_region ?_
     refine w_pure want_none (y_move (v := .int _ _) rfl rfl) rfl ?_
     refine w_pure want_none (y_and (x := (setW l i (Ha.ways l 0))) (y := 1) rfl rfl rfl rfl (by first | rfl | omega) rfl (by first | omega | exact shr_lt (by omega)) (by first | omega | exact shr_lt (by omega))) rfl ?_
     refine w_pure want_none (y_eql rfl rfl rfl rfl) rfl ?_
     refine w_pure want_none (y_move (v := .bool _) rfl rfl) rfl ?_
     refine w_split (fun h78 => ?_) (fun h78 => ?_)
     ·
      try simp only [Bool.not_eq_true', Bool.not_eq_false', decide_eq_true_eq, decide_eq_false_iff_not, Int.not_lt, Int.not_le] at h78
      refine w_skipop rfl rfl rfl ?_
      refine w_skipop rfl rfl rfl ?_
      refine w_skipop rfl rfl rfl ?_
      refine w_skipop rfl rfl rfl ?_
      refine w_skipop rfl rfl rfl ?_
      refine w_pure want_none (y_pickT (v := _) rfl rfl rfl rfl) rfl ?_
      refine w_nil ?_
      refine q_then (hK76 _ _ ?_)
      refine w_condT rfl rfl ?_
      refine w_exit ?_
      refine q_then_exit ?_
      refine q_blk_this ?_
      refine q_then (hK59 _ _ ?_)
      refine w_region ?_
      refine w_pure want_none (y_add rfl rfl rfl rfl (by omega) (by omega)) rfl ?_
      refine w_pure want_none (y_move (v := .int _ _) rfl rfl) rfl ?_
      refine w_nil ?_
      refine q_then (hN51 _ _ (Nx.intro (l.bunches.length - (i + 1)) (by omega) (by repeat (first | exact agree_mix | refine agree_upd rfl ?_ | refine agree_updL rfl ?_ _ | refine agree_mixin rfl ?_)) ?_))
      first
        | exact ⟨i + 1, M68, rfl, by omega, rfl, hM68, by rw [fit_skip (by first | exact .inl (by assumption) | exact .inr (by assumption))]; exact hs73.tail⟩
        | exact ⟨i + 1, M68, rfl, by omega, rfl, hM68, by rw [fit_add (by assumption) (by assumption)]; exact hs73.tail⟩
     ·
      try simp only [Bool.not_eq_true', Bool.not_eq_false', decide_eq_true_eq, decide_eq_false_iff_not, Int.not_lt, Int.not_le] at h78
      refine w_pure (want_yes rfl rfl rfl) (y_move (v := .int _ _) rfl rfl) rfl ?_
      refine w_pure (want_yes rfl rfl rfl) (y_load1 Try.isAgg3 hs73.tail.tail.tail.drop rfl rfl hx4) rfl ?_
      refine w_pure (want_yes rfl rfl rfl) (y_add rfl rfl rfl rfl (by omega) (by omega)) rfl ?_
      refine w_pure (want_yes rfl rfl rfl) (y_shr (x := (setW l i (Ha.ways l 0))) (y := g.toNat + 2) rfl rfl rfl rfl (by first | rfl | omega) (by first | rfl | omega) (by first | omega | exact shr_lt (by omega))) rfl ?_
      refine w_pure (want_yes rfl rfl rfl) (y_gtr rfl rfl rfl rfl) rfl ?_
      refine w_pure want_none (y_pickF (v := .bool _) rfl rfl rfl rfl) rfl ?_
      refine w_nil ?_
      refine q_then (hK76 _ _ ?_)
      refine w_cond rfl rfl (fun h79 => ?_) (fun h79 => ?_)
      ·
       try simp only [Bool.not_eq_true', Bool.not_eq_false', decide_eq_true_eq, decide_eq_false_iff_not, Int.not_lt, Int.not_le] at h79
       refine w_exit ?_
       refine q_then_exit ?_
       refine q_blk_this ?_
       refine q_then (hK59 _ _ ?_)
       refine w_region ?_
       refine w_pure want_none (y_add rfl rfl rfl rfl (by omega) (by omega)) rfl ?_
       refine w_pure want_none (y_move (v := .int _ _) rfl rfl) rfl ?_
       refine w_nil ?_
       refine q_then (hN51 _ _ (Nx.intro (l.bunches.length - (i + 1)) (by omega) (by repeat (first | exact agree_mix | refine agree_upd rfl ?_ | refine agree_updL rfl ?_ _ | refine agree_mixin rfl ?_)) ?_))
       first
         | exact ⟨i + 1, M68, rfl, by omega, rfl, hM68, by rw [fit_skip (by first | exact .inl (by assumption) | exact .inr (by assumption))]; exact hs73.tail⟩
         | exact ⟨i + 1, M68, rfl, by omega, rfl, hM68, by rw [fit_add (by assumption) (by assumption)]; exact hs73.tail⟩
      ·
       try simp only [Bool.not_eq_true', Bool.not_eq_false', decide_eq_true_eq, decide_eq_false_iff_not, Int.not_lt, Int.not_le] at h79
       refine w_skip ?_
       refine q_then (hK74 _ _ ?_)
       refine w_draw [4] [(0, 1), (1, 0), (2, 0), (3, 0), (4, 3)] Try_mo (by kernel_rfl) hs73 (fun w80 hs81 => ?_)
       refine d_take rfl want_none rfl hs81 (fun _ hq => (y_load1 Try.isAgg3 hq rfl rfl (ats_own (i := 1) (vs := [_]) rfl rfl))) ?_
       refine d_any rfl want_none rfl (fun _ => (y_move (v := .int _ _) rfl rfl)) ?_
       refine d_any rfl want_none rfl (fun _ => (y_shl (x := 1) (y := i) rfl rfl rfl rfl rfl (by first | rfl | omega) (by first | omega | exact shr_lt (by omega)) (by first | omega | exact shr_lt (by omega)))) ?_
       refine d_any rfl want_none rfl (fun _ => (y_or (x := (fitTo l g.toNat (Ha.ways l 0) i)) (y := 1 <<< i) rfl rfl rfl rfl (by first | rfl | omega) (by first | rfl | omega) (by first | omega | exact shr_lt (by omega)) (by first | omega | exact shr_lt (by omega)))) ?_
       refine d_late rfl ?_
       refine w_store (i := 1) (v := .int _ _) (vs := [_]) want_none Try.sizeOf3 rfl rfl rfl rfl rfl (by simp [Value.oneCell']) hs81 rfl (Nat.le_of_ble_eq_true rfl) (fun w82 hs83 => ?_)
       refine w_nil ?_
       refine qn ?_
       refine d_nil ?_
       refine q_blk_normal ?_
       refine q_then (hK59 _ _ ?_)
       refine w_region ?_
       refine w_pure want_none (y_add rfl rfl rfl rfl (by omega) (by omega)) rfl ?_
       refine w_pure want_none (y_move (v := .int _ _) rfl rfl) rfl ?_
       refine w_nil ?_
       refine q_then (hN51 _ _ (Nx.intro (l.bunches.length - (i + 1)) (by omega) (by repeat (first | exact agree_mix | refine agree_upd rfl ?_ | refine agree_updL rfl ?_ _ | refine agree_mixin rfl ?_)) ?_))
       first
         | exact ⟨i + 1, M68, rfl, by omega, rfl, hM68, by rw [fit_skip (by first | exact .inl (by assumption) | exact .inr (by assumption))]; exact hs83.tail⟩
         | exact ⟨i + 1, M68, rfl, by omega, rfl, hM68, by rw [fit_add (by assumption) (by assumption)]; exact hs83.tail⟩
    ·
     try simp only [Bool.not_eq_true', Bool.not_eq_false', decide_eq_true_eq, decide_eq_false_iff_not, Int.not_lt, Int.not_le] at h58
     refine w_exit ?_
     refine q_then_exit ?_
     refine q_then_exit ?_
     refine q_blk_this ?_
     refine q_then (hK47 _ _ ?_)
     refine w_seq (fun K85 hK84 => ?_)
     have hin : i = l.bunches.length := by omega
     subst hin
     refine w_region ?_
     refine w_pure want_none (y_fieldAddr (o := 1) (i := 1) Try.underlying26 rfl Try.sizeOf23 rfl rfl rfl) rfl ?_
     refine w_pure want_none (y_load1 Try.isAgg23 hs.tail.tail.drop rfl rfl (show Ats _ _ _ _ [_] from Ats.part hx3 1 1)) rfl ?_
     refine w_pure want_none (y_lenS Try.underlying23 rfl rfl) rfl ?_
     refine w_pure want_none (y_makeFunc (fv := []) (cv := [_, _, _, _]) rfl rfl rfl rfl) rfl ?_
     refine w_call want_none Try.call85 rfl rfl rfl rfl (c85 l.bunches.length (by omega) (.func (.func 86) #[] #[.pointer (some ⟨b40, 0, none⟩), .pointer (some ⟨b29, 0, none⟩), .pointer (some ⟨b3, 0, none⟩), .pointer (some ⟨b9, 0, none⟩)]) (pickDo l g.toNat m) (fun b X w hb hs => fcon_fn Try.call86 ((c86 l p lb mm hk.app.cons.cons.app g m b (by have := shl_lt64 hk.ok.lb; omega) _ _ _ _ (Ats.app (ats_own (i := 0) (vs := [_]) rfl rfl)) (Ats.app (ats_own (i := 1) (vs := [_]) rfl rfl)) hx3.app.cons.cons.app hx5.app.cons.cons.app hs).mono (fun v w2 h => ⟨h.1, [], h.2⟩))) hs) ?_
     rintro _ w87 ⟨B, aL, cL, rfl, hslB, hs88⟩
     replace hs88 := (show St _ _ (B ++ (_ :: _ :: M ++ (_ :: _ :: _ :: _ :: F))) from hs88)
     refine w_pure want_none (y_move (v := .tuple _) rfl rfl) rfl ?_
     refine w_pure want_none (y_extract (v := .slice _ _ _) rfl rfl rfl) rfl ?_
     refine w_pure want_none (y_extract (v := .bool _) rfl rfl rfl) rfl ?_
     refine w_pure want_none (y_assign (v := .slice _ _ _) rfl rfl) rfl ?_
     refine w_pure want_none (y_assign (v := .bool _) rfl rfl) rfl ?_
     refine w_nil ?_
     refine q_then (hK84 _ _ ?_)
     refine w_seq (fun K90 hK89 => ?_)
     refine w_seq (fun K92 hK91 => ?_)
     refine w_region ?_
     refine w_pure want_none (y_move (v := .bool _) rfl rfl) rfl ?_
     refine w_pure want_none (y_not rfl rfl) rfl ?_
     refine w_nil ?_
     refine q_then (hK91 _ _ ?_)
     refine w_cond rfl rfl (fun h93 => ?_) (fun h93 => ?_)
     ·
      try simp only [Bool.not_eq_true', Bool.not_eq_false', decide_eq_true_eq, decide_eq_false_iff_not, Int.not_lt, Int.not_le] at h93
      refine w_seq (fun K95 hK94 => ?_)
      refine w_region ?_
      refine w_pure want_none (y_assign (v := _) rfl rfl) rfl ?_
      refine w_pure want_none (y_assign (v := _) rfl rfl) rfl ?_
      refine w_nil ?_
      refine q_then (hK94 _ _ ?_)
      refine w_ret ?_
      refine q_then_ret ?_
      refine q_ng_ret ?_
      refine q_ret (l := [.tmp 6, .tmp 7]) (vs := [_, _]) rfl ⟨⟨rfl, show _ = (.slice _ _ _ : Value) from rfl⟩, ⟨rfl, show _ = (.int _ _ : Value) from rfl⟩, trivial⟩ ?_
      first
        | (have hq : pickP l g m = ((fewest (pickDo l g.toNat m) l.bunches.length).1, 0) := by unfold pickP; rw [if_neg (by simp [hee]), if_pos (by assumption)]
           exact ⟨B, aL, cL, by rw [hq]; rfl, by rw [hq]; exact hslB, (kq_own (kq_own (kq_own (kq_own (kq_opq (kq_own (kq_own hs88)))))))⟩)
        | (have hq : pickP l g m = ([], 9) := by unfold pickP; rw [if_neg (by simp [hee]), if_neg (by simp; assumption)]
           exact ⟨[], none, 0, by rw [hq]; rfl, by rw [hq]; exact Sl.nil _ _, hs88.drop.tail.tail.drop.tail.tail.tail.tail⟩)
     ·
      try simp only [Bool.not_eq_true', Bool.not_eq_false', decide_eq_true_eq, decide_eq_false_iff_not, Int.not_lt, Int.not_le] at h93
      refine w_skip ?_
      refine q_then (hK89 _ _ ?_)
      refine w_seq (fun K97 hK96 => ?_)
      refine w_region ?_
      refine w_pure want_none (y_move (v := .slice _ _ _) rfl rfl) rfl ?_
      refine w_pure want_none (y_assign (v := .slice _ _ _) rfl rfl) rfl ?_
      refine w_pure want_none (y_assign (v := _) rfl rfl) rfl ?_
      refine w_nil ?_
      refine q_then (hK96 _ _ ?_)
      refine w_ret ?_
      refine q_ng_ret ?_
      refine q_ret (l := [.tmp 6, .tmp 7]) (vs := [_, _]) rfl ⟨⟨rfl, show _ = (.slice _ _ _ : Value) from rfl⟩, ⟨rfl, show _ = (.int _ _ : Value) from rfl⟩, trivial⟩ ?_
      first
        | (have hq : pickP l g m = ((fewest (pickDo l g.toNat m) l.bunches.length).1, 0) := by unfold pickP; rw [if_neg (by simp [hee]), if_pos (by assumption)]
           exact ⟨B, aL, cL, by rw [hq]; rfl, by rw [hq]; exact hslB, (kq_own (kq_own (kq_own (kq_own (kq_opq (kq_own (kq_own hs88)))))))⟩)
        | (have hq : pickP l g m = ([], 9) := by unfold pickP; rw [if_neg (by simp [hee]), if_neg (by simp; assumption)]
           exact ⟨[], none, 0, by rw [hq]; rfl, by rw [hq]; exact Sl.nil _ _, hs88.drop.tail.tail.drop.tail.tail.tail.tail⟩)

theorem c89 {w0 w : World} {F : List (Nat × Obj)} (l : Lot) (p : At3) (hm : LIn w0 F l p) (hc : (check l).2.2 = 0) (b : Nat) (hb : b < 1000) (bc : Nat) (h1 : Ats w0 F bc 0 (l.cells p)) (hs : St w0 w F) :
  Con Try.prog 89 [.int .i64 (b : Int), .pointer (some ⟨bc, 0, none⟩)] w fun v w' => v = .bool (!(Ha.ways l b).isEmpty) ∧ ∃ Y, St w0 w' (Y ++ F) := by
  refine con_of_wc (n := 8) Try.func89 rfl rfl (Nat.le_of_ble_eq_true rfl) ?_
  refine w_seq (fun K2 hK1 => ?_)
  refine w_region ?_
  refine w_pure want_none (y_assign (v := _) rfl rfl) rfl ?_
  refine w_nil ?_
  refine q_then (hK1 _ _ ?_)
  refine w_seq (fun K4 hK3 => ?_)
  refine w_region ?_
  refine w_pure want_none (y_loadN (vs := [_, _, _]) Try.isAgg26 Try.sizeOf26 hs rfl rfl h1) rfl ?_
  refine w_pure want_none (y_move (v := .int _ _) rfl rfl) rfl ?_
  refine w_call want_none Try.call90 rfl rfl rfl rfl (c90 l p b hs) ?_
  rintro _ w6 ⟨lb, mm, rfl, hs7⟩
  replace hs7 := (show St _ _ (_ :: _ :: F) from hs7)
  have hk := lk_but (but := b) hs7 hm.cons hc hb
  refine w_call want_none Try.call91 rfl rfl rfl rfl (c91 l p b lb mm hk hs7) ?_
  rintro _ w9 ⟨rfl, hs10⟩
  refine w_pure want_none (y_assign (v := .bool _) rfl rfl) rfl ?_
  refine w_nil ?_
  refine q_then (hK3 _ _ ?_)
  refine w_ret ?_
  refine q_ret (l := [.tmp 3]) (vs := [_]) rfl ⟨⟨rfl, show _ = (.bool _ : Value) from rfl⟩, trivial⟩ ?_
  exact ⟨rfl, [], hs10.tail.tail⟩

theorem c34 {w0 w : World} {F : List (Nat × Obj)} (l : Lot) (p : At3) (hm : LIn w0 F l p)  (hs : St w0 w F) :
  Con Try.prog 34 [.agg (l.cells p).toArray] w fun v w' => ∃ B a c, v = .tuple #[.slice a (wrongP l).1.length c, .int .i64 (wrongP l).2] ∧ Sl w0 B a 1 ((wrongP l).1.map fun x => [Value.int .i64 x]) ∧ St w0 w' (B ++ F) := by
  refine con_of_wc (n := 27) Try.func34 rfl rfl (Nat.le_of_ble_eq_true rfl) ?_
  refine w_seq (fun K2 hK1 => ?_)
  refine w_region ?_
  refine w_box (v := .agg #[.slice _ _ _, .slice _ _ _, .slice _ _ _]) (cs := [_, _, _]) want_none rfl rfl rfl hs (fun b3 w4 hs5 => ?_)
  refine w_pure want_none (y_assign (v := _) rfl rfl) rfl ?_
  refine w_pure want_none (y_assign (v := _) rfl rfl) rfl ?_
  refine w_nil ?_
  refine q_then (hK1 _ _ ?_)
  refine w_seq (fun K7 hK6 => ?_)
  refine w_seq (fun K9 hK8 => ?_)
  refine w_region ?_
  refine w_pure want_none (y_loadN (vs := [_, _, _]) Try.isAgg26 Try.sizeOf26 hs5 rfl rfl (ats_own (i := 0) (vs := [_, _, _]) rfl rfl)) rfl ?_
  refine w_call want_none Try.call16 rfl rfl rfl rfl (c16 l _ hm.cons hs5) ?_
  rintro _ w11 ⟨rfl, hs12⟩
  refine w_pure want_none (y_move (v := .tuple _) rfl rfl) rfl ?_
  refine w_pure want_none (y_extract (v := .int _ _) rfl rfl rfl) rfl ?_
  refine w_pure want_none (y_extract (v := .int _ _) rfl rfl rfl) rfl ?_
  refine w_pure want_none (y_extract (v := .int _ _) rfl rfl rfl) rfl ?_
  refine w_pure want_none (y_assign (v := .int _ _) rfl rfl) rfl ?_
  refine w_pure want_none (y_assign (v := .int _ _) rfl rfl) rfl ?_
  refine w_pure want_none (y_assign (v := .int _ _) rfl rfl) rfl ?_
  refine w_nil ?_
  refine q_then (hK8 _ _ ?_)
  refine w_seq (fun K14 hK13 => ?_)
  refine w_region ?_
  refine w_pure want_none (y_move (v := .int _ _) rfl rfl) rfl ?_
  refine w_pure want_none (y_neq rfl rfl rfl rfl) rfl ?_
  refine w_nil ?_
  refine q_then (hK13 _ _ ?_)
  refine w_cond rfl rfl (fun h15 => ?_) (fun h15 => ?_)
  ·
   try simp only [Bool.not_eq_true', Bool.not_eq_false', decide_eq_true_eq, decide_eq_false_iff_not, Int.not_lt, Int.not_le] at h15
   refine w_seq (fun K17 hK16 => ?_)
   refine w_region ?_
   refine w_pure want_none (y_move (v := .int _ _) rfl rfl) rfl ?_
   refine w_pure want_none (y_assign (v := _) rfl rfl) rfl ?_
   refine w_pure want_none (y_assign (v := .int _ _) rfl rfl) rfl ?_
   refine w_nil ?_
   refine q_then (hK16 _ _ ?_)
   refine w_ret ?_
   refine q_then_ret ?_
   refine q_ret (l := [.tmp 2, .tmp 3]) (vs := [_, _]) rfl ⟨⟨rfl, show _ = (.slice _ _ _ : Value) from rfl⟩, ⟨rfl, show _ = (.int _ _ : Value) from rfl⟩, trivial⟩ ?_
   first
     | (have hq : wrongP l = ([], (check l).2.2) := by unfold wrongP; rw [if_pos (by assumption)]
        exact ⟨[], none, 0, by rw [hq]; rfl, by rw [hq]; exact Sl.nil _ _, hs12.tail⟩)
     | (have hq : wrongP l = ((fewest (fun b => !(Ha.ways l b).isEmpty) l.counts.length).1, 0) := by unfold wrongP; rw [if_neg (by simp; assumption)]
        exact ⟨B, aL, cL, by rw [hq]; rfl, by rw [hq]; exact hslB, hs12⟩)
  ·
   try simp only [Bool.not_eq_true', Bool.not_eq_false', decide_eq_true_eq, decide_eq_false_iff_not, Int.not_lt, Int.not_le] at h15
   refine w_skip ?_
   refine q_then (hK6 _ _ ?_)
   refine w_seq (fun K19 hK18 => ?_)
   have hok := check_ok (by assumption)
   have hlc := hok.lc
   refine w_region ?_
   refine w_pure want_none (y_fieldAddr (o := 2) (i := 2) Try.underlying26 rfl Try.sizeOf24 rfl rfl rfl) rfl ?_
   refine w_pure want_none (y_load1 Try.isAgg24 hs12 rfl rfl (ats_own (i := 0) (vs := [_]) rfl rfl)) rfl ?_
   refine w_pure want_none (y_lenS Try.underlying24 rfl rfl) rfl ?_
   refine w_pure want_none (y_makeFunc (fv := []) (cv := [_]) rfl rfl rfl rfl) rfl ?_
   refine w_call want_none Try.call85 rfl rfl rfl rfl (c85 l.counts.length (by omega) (.func (.func 89) #[] #[.pointer (some ⟨b3, 0, none⟩)]) (fun b => !(Ha.ways l b).isEmpty) (fun b X w hb hs => fcon_fn Try.call89 (c89 l p hm.cons.app (by assumption) b (by have := shl_lt64 (n := l.counts.length) (by omega); omega) _ (Ats.app (ats_own (i := 0) (vs := l.cells p) rfl rfl)) hs)) hs12) ?_
   rintro _ w21 ⟨B, aL, cL, rfl, hslB, hs22⟩
   replace hs22 := (show St _ _ (B ++ (_ :: F)) from hs22)
   refine w_pure want_none (y_move (v := .tuple _) rfl rfl) rfl ?_
   refine w_pure want_none (y_extract (v := .slice _ _ _) rfl rfl rfl) rfl ?_
   refine w_pure want_none (y_extract (v := .bool _) rfl rfl rfl) rfl ?_
   refine w_pure want_none (y_assign (v := .slice _ _ _) rfl rfl) rfl ?_
   refine w_pure want_none (y_assign (v := .bool _) rfl rfl) rfl ?_
   refine w_nil ?_
   refine q_then (hK18 _ _ ?_)
   refine w_seq (fun K24 hK23 => ?_)
   refine w_region ?_
   refine w_pure want_none (y_move (v := .slice _ _ _) rfl rfl) rfl ?_
   refine w_pure want_none (y_assign (v := .slice _ _ _) rfl rfl) rfl ?_
   refine w_pure want_none (y_assign (v := _) rfl rfl) rfl ?_
   refine w_nil ?_
   refine q_then (hK23 _ _ ?_)
   refine w_ret ?_
   refine q_ret (l := [.tmp 2, .tmp 3]) (vs := [_, _]) rfl ⟨⟨rfl, show _ = (.slice _ _ _ : Value) from rfl⟩, ⟨rfl, show _ = (.int _ _ : Value) from rfl⟩, trivial⟩ ?_
   first
     | (have hq : wrongP l = ([], (check l).2.2) := by unfold wrongP; rw [if_pos (by assumption)]
        exact ⟨[], none, 0, by rw [hq]; rfl, by rw [hq]; exact Sl.nil _ _, hs22.drop.tail⟩)
     | (have hq : wrongP l = ((fewest (fun b => !(Ha.ways l b).isEmpty) l.counts.length).1, 0) := by unfold wrongP; rw [if_neg (by simp; assumption)]
        exact ⟨B, aL, cL, by rw [hq]; rfl, by rw [hq]; exact hslB, (kq_own hs22)⟩)

end Go.Proofs
