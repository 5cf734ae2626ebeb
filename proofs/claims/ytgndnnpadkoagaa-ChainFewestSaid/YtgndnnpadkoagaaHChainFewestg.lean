/- Own texts of this claim, joined. No conditions. -/
import Derived.Test.YtgndnnpadkoagaaHChainFewesta
import Derived.Test.YtgndnnpadkoagaaHChainFewestb
import Derived.Test.YtgndnnpadkoagaaHChainFewestc
import Derived.Test.YtgndnnpadkoagaaHChainFewestd
import Derived.Test.YtgndnnpadkoagaaHChainFeweste
import Derived.Test.YtgndnnpadkoagaaHChainFewestf
/- Walks of this seat, printed by gen.py over the engine: what each function returns, in whatever world. No conditions but those of each contract. -/
set_option linter.unusedVariables false
set_option linter.unusedSimpArgs false
set_option maxRecDepth 20000
namespace Go.Proofs
open Go.Rt Go.Rt.Ch
open Go.Rt.Ha (firstE firstE_step firstE_stop firstE_end failE nameE felt spanL upto span_mem listL fewest fewTo bit before fewStep drop_lt drop_get drop_next drop_done drop_notin set_take set_zero take_less Lot Bunch feltTo fTo fPart felt_zero felt_step fTo_succ fTo_len fPart_succ fPart_len fPart_all filt_yes filt_no upto_len at_ someOf choicesTo cfind_here cfind_next cfind_on choices_fin pick_idx pickL_in find_on find_next rising rising_step rising_end rising_stop list_rising before_fewer)
attribute [local irreducible] WL WC Con Yd At Ats Sl Agree DW

theorem c40 {w0 w : World} {F : List (Nat × Obj)} (b n : Nat) (hb : b ≤ 9223372036854775807) (hn : n ≤ 9223372036854775807) (hs : St w0 w F) : Con Try.prog 40 [.int .i64 (b : Int), .int .i64 (n : Int)] w fun v w' => v = .bool (decide ((((b >>> n : Nat) : Int)) % 2 = 1)) ∧ St w0 w' F := by
  refine con_of_wc (n := 16) Try.func40 rfl rfl (Nat.le_of_ble_eq_true rfl) ?_
  refine w_seq (fun K2 hK1 => ?_)
  refine w_region ?_
  refine w_p (y_assign (v := _) rfl rfl) rfl ?_
  refine w_nil ?_
  refine q_then (hK1 _ _ ?_)
  refine w_seq (fun K4 hK3 => ?_)
  refine w_seq (fun K6 hK5 => ?_)
  refine w_region ?_
  refine w_p (y_assign (v := _) rfl rfl) rfl ?_
  refine w_nil ?_
  refine q_then (hK5 _ _ ?_)
  refine w_block ?_
  refine w_loop [0, 5, 6, 7, 8, 9, 10, 11, 12] [0, 5] (fun k vs w => ∃ i : Nat, vs = [.int .i64 ((b >>> i : Nat) : Int), .int .i64 i] ∧ i ≤ n ∧ k = n - i ∧ St w0 w F) (n) ?_ ?_
  ·
   exact ⟨0, rfl, by omega, by omega, hs⟩
  ·
   intro k vs μ w9 hI K8 hN7
   obtain ⟨i, rfl, hia, rfl, hs⟩ := hI
   have hsl := shr_le b i
   have hsl0 : (0 : Int) ≤ ((b >>> i : Nat) : Int) := Int.natCast_nonneg _
   refine w_seq (fun K11 hK10 => ?_)
   refine w_seq (fun K13 hK12 => ?_)
   refine w_region ?_
   refine w_p (y_move (v := .int _ _) rfl rfl) rfl ?_
   refine w_p (y_move (v := .int _ _) rfl rfl) rfl ?_
   refine w_p (y_lss rfl rfl rfl rfl) rfl ?_
   refine w_nil ?_
   refine q_then (hK12 _ _ ?_)
   refine w_cond rfl rfl (fun h14 => ?_) (fun h14 => ?_)
   ·
    try simp only [zA, zB, zC, zD, zE, zF] at h14
    refine w_skip ?_
    refine q_then (hK10 _ _ ?_)
    refine w_seq (fun K16 hK15 => ?_)
    refine w_block ?_
    refine w_region ?_
    refine w_p (y_move (v := .int _ _) rfl rfl) rfl ?_
    refine w_p (y_quo rfl rfl rfl rfl (by omega) (by omega) (by omega)) rfl ?_
    refine w_p (y_assign (v := .int _ _) rfl rfl) rfl ?_
    refine w_nil ?_
    refine q_blk_normal ?_
    refine q_then (hK15 _ _ ?_)
    refine w_region ?_
    refine w_p (y_move (v := .int _ _) rfl rfl) rfl ?_
    refine w_p (y_add rfl rfl rfl rfl (by omega) (by omega)) rfl ?_
    refine w_p (y_assign (v := .int _ _) rfl rfl) rfl ?_
    refine w_nil ?_
    refine q_then (hN7 _ _ (Nx.intro (n - (i + 1)) (by omega) (by repeat (first | exact agree_mix | refine agree_upd rfl ?_ | refine agree_updL rfl ?_ _ | refine agree_mixin rfl ?_)) ?_))
    exact ⟨i + 1, by rw [← shr_half]; rfl, by omega, rfl, hs⟩
   ·
    try simp only [zA, zB, zC, zD, zE, zF] at h14
    refine w_exit ?_
    refine q_then_exit ?_
    refine q_then_exit ?_
    refine q_blk_this ?_
    refine q_then (hK3 _ _ ?_)
    refine w_seq (fun K18 hK17 => ?_)
    refine w_region ?_
    refine w_p (y_move (v := .int _ _) rfl rfl) rfl ?_
    refine w_p (y_rem rfl rfl rfl rfl (by omega) (by omega)) rfl ?_
    refine w_p (y_eql rfl rfl rfl rfl) rfl ?_
    refine w_p (y_assign (v := .bool _) rfl rfl) rfl ?_
    refine w_nil ?_
    refine q_then (hK17 _ _ ?_)
    refine w_ret ?_
    refine q_ret (l := [.tmp 4]) (vs := [_]) rfl ⟨⟨rfl, show _ = (.bool _ : Value) from rfl⟩, trivial⟩ ?_
    have hin : i = n := by omega
    subst hin
    exact ⟨rfl, hs⟩

theorem c44 {w0 w : World} {F : List (Nat × Obj)} (aa ab : Option Addr) (a b : List Int) (ca cb : Nat) (hla : a.length ≤ 9223372036854775807) (ha : Sl w0 F aa 1 (a.map fun x => [Value.int .i64 x])) (hb : Sl w0 F ab 1 (b.map fun x => [Value.int .i64 x])) (hs : St w0 w F) : Con Try.prog 44 [.slice aa a.length ca, .slice ab b.length cb] w fun v w' => v = .bool (if a.length = b.length then less a b else decide (a.length < b.length)) ∧ St w0 w' F := by
  refine con_of_wc (n := 18) Try.func44 rfl rfl (Nat.le_of_ble_eq_true rfl) ?_
  refine w_seq (fun K2 hK1 => ?_)
  refine w_region ?_
  refine w_p (y_assign (v := _) rfl rfl) rfl ?_
  refine w_nil ?_
  refine q_then (hK1 _ _ ?_)
  refine w_seq (fun K4 hK3 => ?_)
  refine w_seq (fun K6 hK5 => ?_)
  refine w_region ?_
  refine w_p (y_move (v := .slice _ _ _) rfl rfl) rfl ?_
  refine w_p (y_lenS Try.underlying39 rfl rfl) rfl ?_
  refine w_p (y_move (v := .slice _ _ _) rfl rfl) rfl ?_
  refine w_p (y_lenS Try.underlying39 rfl rfl) rfl ?_
  refine w_p (y_neq rfl rfl rfl rfl) rfl ?_
  refine w_nil ?_
  refine q_then (hK5 _ _ ?_)
  refine w_cond rfl rfl (fun h7 => ?_) (fun h7 => ?_)
  ·
   try simp only [zA, zB, zC, zD, zE, zF] at h7
   refine w_seq (fun K9 hK8 => ?_)
   refine w_region ?_
   refine w_p (y_move (v := .slice _ _ _) rfl rfl) rfl ?_
   refine w_p (y_lenS Try.underlying39 rfl rfl) rfl ?_
   refine w_p (y_move (v := .slice _ _ _) rfl rfl) rfl ?_
   refine w_p (y_lenS Try.underlying39 rfl rfl) rfl ?_
   refine w_p (y_lss rfl rfl rfl rfl) rfl ?_
   refine w_p (y_assign (v := .bool _) rfl rfl) rfl ?_
   refine w_nil ?_
   refine q_then (hK8 _ _ ?_)
   refine w_ret ?_
   refine q_then_ret ?_
   refine q_ret (l := [.tmp 4]) (vs := [_]) rfl ⟨⟨rfl, show _ = (.bool _ : Value) from rfl⟩, trivial⟩ ?_
   first
     | exact ⟨congrArg Value.bool (by rw [if_neg (by omega)]; rw [Bool.eq_iff_iff]; simp), hs⟩
     | exact ⟨congrArg Value.bool (by rw [if_pos (by omega)]), hs⟩
  ·
   try simp only [zA, zB, zC, zD, zE, zF] at h7
   refine w_skip ?_
   refine q_then (hK3 _ _ ?_)
   refine w_seq (fun K11 hK10 => ?_)
   refine w_region ?_
   refine w_p (y_move (v := .slice _ _ _) rfl rfl) rfl ?_
   refine w_p (y_move (v := .slice _ _ _) rfl rfl) rfl ?_
   refine w_call want_none Try.call82 rfl rfl rfl rfl (c82 _ _ _ _ _ _ (by omega) (by assumption) (by assumption) hs) ?_
   rintro _ w13 ⟨rfl, hs14⟩
   refine w_p (y_assign (v := .bool _) rfl rfl) rfl ?_
   refine w_nil ?_
   refine q_then (hK10 _ _ ?_)
   refine w_ret ?_
   refine q_ret (l := [.tmp 4]) (vs := [_]) rfl ⟨⟨rfl, show _ = (.bool _ : Value) from rfl⟩, trivial⟩ ?_
   first
     | exact ⟨congrArg Value.bool (by rw [if_neg (by omega)]; rw [Bool.eq_iff_iff]; simp), hs14⟩
     | exact ⟨congrArg Value.bool (by rw [if_pos (by omega)]), hs14⟩

theorem bit_con {w0 w : World} {F : List (Nat × Obj)} (z : Int) (n : Nat) (hz : 0 ≤ z) (hz2 : z ≤ 9223372036854775807) (hn : n ≤ 9223372036854775807) (hs : St w0 w F) : Con Try.prog 40 [.int .i64 z, .int .i64 (n : Int)] w fun v w' => v = .bool (decide (bit z.toNat n = 1)) ∧ St w0 w' F := by
  have h := c40 z.toNat n (by omega) hn hs
  rw [Int.toNat_of_nonneg hz, Go.Rt.Ha.bit_dec] at h
  exact h
theorem c41 {w0 w : World} {F : List (Nat × Obj)} (al : Option Addr) (cl : Nat) (l : List Int) (hll : l.length ≤ 9223372036854775807) (hl : Sl w0 F al 1 (l.map fun x => [Value.int .i64 x])) (n : Int) (hs : St w0 w F) :
  Con Try.prog 41 [.slice al l.length cl, .int .i64 n] w fun v w' => v = .bool (rising n (-1) l) ∧ St w0 w' F := by
  refine con_of_wc (n := 31) Try.func41 rfl rfl (Nat.le_of_ble_eq_true rfl) ?_
  refine w_seq (fun K2 hK1 => ?_)
  refine w_region ?_
  refine w_p (y_assign (v := _) rfl rfl) rfl ?_
  refine w_nil ?_
  refine q_then (hK1 _ _ ?_)
  refine w_seq (fun K4 hK3 => ?_)
  refine w_region ?_
  refine w_p (y_assign (v := _) rfl rfl) rfl ?_
  refine w_nil ?_
  refine q_then (hK3 _ _ ?_)
  refine w_seq (fun K6 hK5 => ?_)
  refine w_seq (fun K8 hK7 => ?_)
  refine w_region ?_
  refine w_p (y_assign (v := _) rfl rfl) rfl ?_
  refine w_nil ?_
  refine q_then (hK7 _ _ ?_)
  refine w_block ?_
  refine w_loop [4, 5, 6, 7, 8, 9, 10, 11, 12, 13, 14, 15, 16, 17, 18, 19, 20, 21, 22, 23, 24, 25, 26, 27, 28, 29, 30] [5, 6] (fun k vs w => ∃ (i : Nat) (p : Int), vs = [.int .i64 p, .int .i64 i] ∧ i ≤ l.length ∧ k = l.length - i ∧ rising n (-1) l = rising n p (l.drop i) ∧ St w0 w F) (l.length) ?_ ?_
  ·
   exact ⟨0, -1, rfl, by omega, by omega, rfl, hs⟩
  ·
   intro k vs μ w11 hI K10 hN9
   obtain ⟨i, p, rfl, hia, rfl, hri, hs⟩ := hI
   refine w_seq (fun K13 hK12 => ?_)
   refine w_seq (fun K15 hK14 => ?_)
   refine w_region ?_
   refine w_p (y_move (v := .int _ _) rfl rfl) rfl ?_
   refine w_p (y_move (v := .slice _ _ _) rfl rfl) rfl ?_
   refine w_p (y_lenS Try.underlying39 rfl rfl) rfl ?_
   refine w_p (y_lss rfl rfl rfl rfl) rfl ?_
   refine w_nil ?_
   refine q_then (hK14 _ _ ?_)
   refine w_cond rfl rfl (fun h16 => ?_) (fun h16 => ?_)
   ·
    try simp only [zA, zB, zC, zD, zE, zF] at h16
    refine w_skip ?_
    refine q_then (hK12 _ _ ?_)
    refine w_seq (fun K18 hK17 => ?_)
    refine w_block ?_
    refine w_seq (fun K20 hK19 => ?_)
    refine w_seq (fun K22 hK21 => ?_)
    have hi2 : i < l.length := by omega
    obtain ⟨bx, ox, hbx, hx⟩ := sl_ints hl hi2
    subst hbx
    refine w_region ?_
    refine w_p (y_move (v := .slice _ _ _) rfl rfl) rfl ?_
    refine w_p (y_move (v := .int _ _) rfl rfl) rfl ?_
    refine w_p (y_indexS Try.underlying39 Try.sizeOf3 rfl rfl rfl rfl (i := _) rfl (by omega)) rfl ?_
    refine w_p (y_load1 Try.isAgg3 hs rfl rfl hx) rfl ?_
    refine w_p (y_move (v := .int _ _) rfl rfl) rfl ?_
    refine w_p (y_leq rfl rfl rfl rfl) rfl ?_
    refine w_p (y_move (v := .bool _) rfl rfl) rfl ?_
    refine w_split (fun h23 => ?_) (fun h23 => ?_)
    ·
     try simp only [zA, zB, zC, zD, zE, zF] at h23
     refine w_skipop rfl rfl rfl ?_
     refine w_skipop rfl rfl rfl ?_
     refine w_skipop rfl rfl rfl ?_
     refine w_skipop rfl rfl rfl ?_
     refine w_skipop rfl rfl rfl ?_
     refine w_skipop rfl rfl rfl ?_
     refine w_p (y_pickT (v := _) rfl rfl rfl rfl) rfl ?_
     refine w_nil ?_
     refine q_then (hK21 _ _ ?_)
     refine w_condT rfl rfl ?_
     refine w_seq (fun K25 hK24 => ?_)
     refine w_region ?_
     refine w_p (y_assign (v := _) rfl rfl) rfl ?_
     refine w_nil ?_
     refine q_then (hK24 _ _ ?_)
     refine w_ret ?_
     refine q_then_ret ?_
     refine q_blk_ret ?_
     refine q_then_ret ?_
     refine q_then_ret ?_
     refine q_blk_ret ?_
     refine q_then_ret ?_
     refine q_ret (l := [.tmp 4]) (vs := [_]) rfl ⟨⟨rfl, show _ = (.bool _ : Value) from rfl⟩, trivial⟩ ?_
     first
       | exact ⟨congrArg Value.bool (hri.trans (rising_end (by omega))).symm, hs⟩
       | exact ⟨congrArg Value.bool (hri.trans (rising_stop hi2 (by omega))).symm, hs⟩
    ·
     try simp only [zA, zB, zC, zD, zE, zF] at h23
     refine w_y rfl rfl rfl (y_move (v := .slice _ _ _) rfl rfl) rfl ?_
     refine w_y rfl rfl rfl (y_move (v := .int _ _) rfl rfl) rfl ?_
     refine w_y rfl rfl rfl (y_indexS Try.underlying39 Try.sizeOf3 rfl rfl rfl rfl (i := _) rfl (by omega)) rfl ?_
     refine w_y rfl rfl rfl (y_load1 Try.isAgg3 hs rfl rfl hx) rfl ?_
     refine w_y rfl rfl rfl (y_move (v := .int _ _) rfl rfl) rfl ?_
     refine w_y rfl rfl rfl (y_geq rfl rfl rfl rfl) rfl ?_
     refine w_p (y_pickF (v := .bool _) rfl rfl rfl rfl) rfl ?_
     refine w_nil ?_
     refine q_then (hK21 _ _ ?_)
     refine w_cond rfl rfl (fun h26 => ?_) (fun h26 => ?_)
     ·
      try simp only [zA, zB, zC, zD, zE, zF] at h26
      refine w_seq (fun K28 hK27 => ?_)
      refine w_region ?_
      refine w_p (y_assign (v := _) rfl rfl) rfl ?_
      refine w_nil ?_
      refine q_then (hK27 _ _ ?_)
      refine w_ret ?_
      refine q_then_ret ?_
      refine q_blk_ret ?_
      refine q_then_ret ?_
      refine q_then_ret ?_
      refine q_blk_ret ?_
      refine q_then_ret ?_
      refine q_ret (l := [.tmp 4]) (vs := [_]) rfl ⟨⟨rfl, show _ = (.bool _ : Value) from rfl⟩, trivial⟩ ?_
      first
        | exact ⟨congrArg Value.bool (hri.trans (rising_end (by omega))).symm, hs⟩
        | exact ⟨congrArg Value.bool (hri.trans (rising_stop hi2 (by omega))).symm, hs⟩
     ·
      try simp only [zA, zB, zC, zD, zE, zF] at h26
      refine w_skip ?_
      refine q_then (hK19 _ _ ?_)
      refine w_region ?_
      refine w_p (y_move (v := .slice _ _ _) rfl rfl) rfl ?_
      refine w_p (y_move (v := .int _ _) rfl rfl) rfl ?_
      refine w_p (y_indexS Try.underlying39 Try.sizeOf3 rfl rfl rfl rfl (i := _) rfl (by omega)) rfl ?_
      refine w_p (y_load1 Try.isAgg3 hs rfl rfl hx) rfl ?_
      refine w_p (y_assign (v := .int _ _) rfl rfl) rfl ?_
      refine w_nil ?_
      refine q_blk_normal ?_
      refine q_then (hK17 _ _ ?_)
      refine w_region ?_
      refine w_p (y_move (v := .int _ _) rfl rfl) rfl ?_
      refine w_p (y_add rfl rfl rfl rfl (by omega) (by omega)) rfl ?_
      refine w_p (y_assign (v := .int _ _) rfl rfl) rfl ?_
      refine w_nil ?_
      refine q_then (hN9 _ _ (Nx.intro (l.length - (i + 1)) (by omega) (by repeat (first | exact agree_mix | refine agree_upd rfl ?_ | refine agree_updL rfl ?_ _ | refine agree_mixin rfl ?_)) ?_))
      exact ⟨i + 1, _, rfl, by omega, rfl, hri.trans (rising_step hi2 (by omega) (by omega)), hs⟩
   ·
    try simp only [zA, zB, zC, zD, zE, zF] at h16
    refine w_exit ?_
    refine q_then_exit ?_
    refine q_then_exit ?_
    refine q_blk_this ?_
    refine q_then (hK5 _ _ ?_)
    refine w_seq (fun K30 hK29 => ?_)
    refine w_region ?_
    refine w_p (y_assign (v := _) rfl rfl) rfl ?_
    refine w_nil ?_
    refine q_then (hK29 _ _ ?_)
    refine w_ret ?_
    refine q_ret (l := [.tmp 4]) (vs := [_]) rfl ⟨⟨rfl, show _ = (.bool _ : Value) from rfl⟩, trivial⟩ ?_
    first
      | exact ⟨congrArg Value.bool (hri.trans (rising_end (by omega))).symm, hs⟩
      | exact ⟨congrArg Value.bool (hri.trans (rising_stop hi2 (by omega))).symm, hs⟩

end Go.Proofs
/- Walks of this seat, printed by gen.py over the engine: what each function returns, in whatever world. No conditions but those of each contract. -/
set_option linter.unusedVariables false
set_option linter.unusedSimpArgs false
set_option maxRecDepth 20000
namespace Go.Proofs
open Go.Rt Go.Rt.Ch
open Go.Rt.Ha (firstE firstE_step firstE_stop firstE_end failE nameE felt spanL upto span_mem listL fewest fewTo bit before fewStep drop_lt drop_get drop_next drop_done drop_notin set_take set_zero take_less)
attribute [local irreducible] WL WC Con Yd At Ats Sl Agree DW

theorem wrongP_e {b : Board} (h : ¬ (check b).2.2 = 0) : wrongP b = ([], (check b).2.2) := by unfold wrongP; rw [if_pos h]
theorem wrongP_y {b : Board} (h : (check b).2.2 = 0) : wrongP b = ((fewest (wrongS b) (b.hours.length * b.ctrs.length)).1, 0) := by unfold wrongP; rw [if_neg (by simp [h])]
theorem many_8 {b : Board} (h : b.Ok) : b.hours.length * b.ctrs.length ≤ 8 := by
  have h1 := Nat.mul_le_mul h.lh h.lc
  omega
theorem c30 {w0 w : World} {F : List (Nat × Obj)} (b : Board) (p : AtB) (hm : BIn w0 F b p)  (hs : St w0 w F) :
  Con Try.prog 30 [.agg (b.cells p).toArray] w fun v w' => ∃ B a' c, v = .tuple #[.slice a' (wrongP b).1.length c, .int .i64 (wrongP b).2] ∧ Sl w0 B a' 1 ((wrongP b).1.map fun x => [Value.int .i64 x]) ∧ St w0 w' (B ++ F) := by
  refine con_of_wc (n := 27) Try.func30 rfl rfl (Nat.le_of_ble_eq_true rfl) ?_
  have hlh0 := hm.lh
  have hlc0 := hm.lc
  refine w_seq (fun K2 hK1 => ?_)
  refine w_region ?_
  refine w_box (v := .agg #[.int _ _, .slice _ _ _, .slice _ _ _]) (cs := [_, _, _]) want_none rfl rfl rfl hs (fun b3 w4 hs5 => ?_)
  refine w_p (y_assign (v := _) rfl rfl) rfl ?_
  refine w_p (y_assign (v := _) rfl rfl) rfl ?_
  refine w_nil ?_
  refine q_then (hK1 _ _ ?_)
  refine w_seq (fun K7 hK6 => ?_)
  refine w_seq (fun K9 hK8 => ?_)
  refine w_region ?_
  refine w_p (y_loadN (vs := [_, _, _]) Try.isAgg25 Try.sizeOf25 hs5 rfl rfl (ats_own (i := 0) (vs := [_, _, _]) rfl rfl)) rfl ?_
  refine w_call want_none Try.call16 rfl rfl rfl rfl (c16 b _ hm.cons hs5) ?_
  rintro _ w11 ⟨rfl, hs12⟩
  refine w_p (y_move (v := .tuple _) rfl rfl) rfl ?_
  refine w_p (y_extract (v := .int _ _) rfl rfl rfl) rfl ?_
  refine w_p (y_extract (v := .int _ _) rfl rfl rfl) rfl ?_
  refine w_p (y_extract (v := .int _ _) rfl rfl rfl) rfl ?_
  refine w_p (y_assign (v := .int _ _) rfl rfl) rfl ?_
  refine w_p (y_assign (v := .int _ _) rfl rfl) rfl ?_
  refine w_p (y_assign (v := .int _ _) rfl rfl) rfl ?_
  refine w_nil ?_
  refine q_then (hK8 _ _ ?_)
  refine w_seq (fun K14 hK13 => ?_)
  refine w_region ?_
  refine w_p (y_move (v := .int _ _) rfl rfl) rfl ?_
  refine w_p (y_neq rfl rfl rfl rfl) rfl ?_
  refine w_nil ?_
  refine q_then (hK13 _ _ ?_)
  refine w_cond rfl rfl (fun h15 => ?_) (fun h15 => ?_)
  ·
   try simp only [zA, zB, zC, zD, zE, zF] at h15
   refine w_seq (fun K17 hK16 => ?_)
   refine w_region ?_
   refine w_p (y_move (v := .int _ _) rfl rfl) rfl ?_
   refine w_p (y_assign (v := _) rfl rfl) rfl ?_
   refine w_p (y_assign (v := .int _ _) rfl rfl) rfl ?_
   refine w_nil ?_
   refine q_then (hK16 _ _ ?_)
   refine w_ret ?_
   refine q_then_ret ?_
   refine q_ret (l := [.tmp 2, .tmp 3]) (vs := [_, _]) rfl ⟨⟨rfl, show _ = (.slice _ _ _ : Value) from rfl⟩, ⟨rfl, show _ = (.int _ _ : Value) from rfl⟩, trivial⟩ ?_
   exact ⟨[], none, 0, by rw [wrongP_e (by assumption)]; rfl, by rw [wrongP_e (by assumption)]; exact Sl.nil _ _, hs12.tail⟩
  ·
   try simp only [zA, zB, zC, zD, zE, zF] at h15
   refine w_skip ?_
   refine q_then (hK6 _ _ ?_)
   refine w_seq (fun K19 hK18 => ?_)
   have hck : (check b).2.2 = 0 := by assumption
   have hok := check_ok hck
   have h8 := many_8 hok
   have hmi : ((b.hours.length : Int) * (b.ctrs.length : Int)) = ((b.hours.length * b.ctrs.length : Nat) : Int) := by push_cast; rfl
   refine w_region ?_
   refine w_p (y_fieldAddr (o := 1) (i := 1) Try.underlying25 rfl Try.sizeOf22 rfl rfl rfl) rfl ?_
   refine w_p (y_load1 Try.isAgg22 hs12 rfl rfl (ats_own (i := 0) (vs := [_]) rfl rfl)) rfl ?_
   refine w_p (y_lenS Try.underlying22 rfl rfl) rfl ?_
   refine w_alloc (cs := [_]) want_none Try.zeroValue3 rfl hs12 (fun b20 w21 hs22 => ?_)
   refine w_store (i := 0) (v := .int _ _) (vs := [_]) want_none Try.sizeOf3 rfl rfl rfl rfl rfl (by simp [Value.oneCell']) hs22 rfl (Nat.le_of_ble_eq_true rfl) (fun w23 hs24 => ?_)
   refine w_nil ?_
   refine q_then (hK18 _ _ ?_)
   refine w_seq (fun K26 hK25 => ?_)
   refine w_region ?_
   refine w_p (y_load1 Try.isAgg3 hs24 rfl rfl (ats_own (i := 0) (vs := [_]) rfl rfl)) rfl ?_
   refine w_p (y_fieldAddr (o := 2) (i := 2) Try.underlying25 rfl Try.sizeOf23 rfl rfl rfl) rfl ?_
   refine w_p (y_load1 Try.isAgg23 hs24 rfl rfl (ats_own (i := 1) (vs := [_]) rfl rfl)) rfl ?_
   refine w_p (y_lenS Try.underlying23 rfl rfl) rfl ?_
   refine w_p (yd_cast (z' := ((b.hours.length * b.ctrs.length : Nat) : Int)) hmi (y_mul rfl rfl rfl rfl (by omega) (by omega))) rfl ?_
   refine w_p (y_makeFunc (fv := []) (cv := [_, _]) rfl rfl rfl rfl) rfl ?_
   refine w_call want_none Try.call78 rfl rfl rfl rfl (c78 (M := []) (F := (b20, blk 3 [.int .i64 (b.hours.length : Int)]) :: (b3, blk 25 (b.cells p)) :: F) (b.hours.length * b.ctrs.length) (many_8 hok) _ (wrongS b) (fun M => M = []) (fun s M X w hs1 hM hs => by subst hM; exact fcon_fn Try.call83 ((c83 b p hm.cons.cons.app hck s (by have := (shl_256 (many_8 hok)).2; omega) _ _ (Ats.app (ats_own (i := 1) (vs := b.cells p) rfl rfl)) (Ats.app (ats_own (i := 0) (vs := [_]) rfl rfl)) hs).mono fun v w h => ⟨h.1, [], rfl, h.2⟩)) rfl hs24) ?_
   rintro _ w28 ⟨B, M2, a2, c2, rfl, hslB, rfl, hs29⟩
   refine w_p (y_assign (v := .slice _ _ _) rfl rfl) rfl ?_
   refine w_p (y_assign (v := _) rfl rfl) rfl ?_
   refine w_nil ?_
   refine q_then (hK25 _ _ ?_)
   refine w_ret ?_
   refine q_ret (l := [.tmp 2, .tmp 3]) (vs := [_, _]) rfl ⟨⟨rfl, show _ = (.slice _ _ _ : Value) from rfl⟩, ⟨rfl, show _ = (.int _ _ : Value) from rfl⟩, trivial⟩ ?_
   exact ⟨B, a2, c2, by rw [wrongP_y hck]; rfl, by rw [wrongP_y hck]; exact hslB, keep_front (M := []) (P := [_, _]) hs29⟩

end Go.Proofs
/- Plain words of the chain layer: the document's example. No conditions. -/
set_option linter.unusedSimpArgs false
set_option linter.unusedVariables false
namespace Go.Rt.Ch
open Go.Rt.Ha
def nShip : ByteArray := ⟨#[115, 104, 105, 112]⟩
def nShore : ByteArray := ⟨#[115, 104, 111, 114, 101]⟩
def exB (n : Int) : Board := ⟨2, [⟨0, 10, 13⟩, ⟨0, 8, 11⟩, ⟨1, 10, 12⟩], [⟨nShip, 1, 0, 90, [0, 0, 0], [1, -1, 22]⟩, ⟨nShore, 0, 2, 0, [0, 2, 0], [13, 10, n]⟩]⟩
theorem ex_went1 : wentP (exB 21) 0 = ((11, 12), 0) := by decide +kernel
theorem ex_hold1 : holdP (exB 21) 0 = ((21, 22), 0) := by decide +kernel
theorem ex_right1 : rightP (exB 21) 0 = (0, 0) := by decide +kernel
theorem ex_right2 : rightP (exB 21) 1 = (2, 0) := by decide +kernel
theorem ex_zero1 : zeroP (exB 21) 1 1 = (1, 0) := by decide +kernel
theorem ex_looks1 : looksP (exB 21) 0 0 = ([0], 0) := by decide +kernel
theorem ex_looks2 : looksP (exB 21) 0 1 = ([], 0) := by decide +kernel
theorem ex_wrong1 : wrongP (exB 30) = ([5], 0) := by decide +kernel
theorem ex_went2 : wentP (exB 30) 0 = ((0, 0), 8) := by decide +kernel
theorem ex_looks3 : looksP (exB 21) 0 (-1) = ([], 7) := by decide +kernel
end Go.Rt.Ch
/- Walks of this seat, printed by gen.py over the engine: what each function returns, in whatever world. No conditions but those of each contract. -/
set_option linter.unusedVariables false
set_option linter.unusedSimpArgs false
set_option maxRecDepth 20000
namespace Go.Proofs
open Go.Rt Go.Rt.Ch
open Go.Rt.Ha (firstE firstE_step firstE_stop firstE_end failE nameE felt spanL upto span_mem listL fewest fewTo bit before fewStep drop_lt drop_get drop_next drop_done drop_notin set_take set_zero take_less)
attribute [local irreducible] WL WC Con Yd At Ats Sl Agree DW
theorem Try_Ya_fb7 (x0 : Int) (x1 : Int) (w : World) : (Instr.build 31 [(0, .int .i64 x0), (1, .int .i64 x1)].toArray).run Try.prog w = .ok (.agg #[.int .i64 x0, .int .i64 x1]) w := by kernel_rfl
theorem Try_Ya_fb8 (x0 : Int) (x1 : Int) (w : World) : (Instr.build 70 [(1, .agg #[.int .i64 x0, .int .i64 x1])].toArray).run Try.prog w = .ok (.agg #[.int .i64 0, .int .i64 x0, .int .i64 x1]) w := by kernel_rfl
theorem Try_Ya_fb9 (x0 : Int) (x1 : Int) (x2 : Int) (w : World) : (Instr.build 70 [(0, .int .i64 x0), (1, .agg #[.int .i64 x1, .int .i64 x2])].toArray).run Try.prog w = .ok (.agg #[.int .i64 x0, .int .i64 x1, .int .i64 x2]) w := by kernel_rfl
theorem Try_Ya_fb10 (x0 : Int) (x1 : Int) (x2 : Int) (x3 : Int) (x4 : Int) (x5 : Int) (x6 : Int) (x7 : Int) (x8 : Int) (w : World) : (Instr.buildSlice 22 3 [(0, .agg #[.int .i64 x0, .int .i64 x1, .int .i64 x2]), (1, .agg #[.int .i64 x3, .int .i64 x4, .int .i64 x5]), (2, .agg #[.int .i64 x6, .int .i64 x7, .int .i64 x8])].toArray).run Try.prog w = .ok (.slice (some ⟨w.heap.size, 0, none⟩) 3 3) (w.alloc (Go.Rt.blk 70 [.int .i64 x0, .int .i64 x1, .int .i64 x2, .int .i64 x3, .int .i64 x4, .int .i64 x5, .int .i64 x6, .int .i64 x7, .int .i64 x8])) := by kernel_rfl
theorem Try_Ya_fb11 (x0 : Int) (x1 : Int) (x2 : Int) (w : World) : (Instr.buildSlice 39 3 [(0, .int .i64 x0), (1, .int .i64 x1), (2, .int .i64 x2)].toArray).run Try.prog w = .ok (.slice (some ⟨w.heap.size, 0, none⟩) 3 3) (w.alloc (Go.Rt.blk 3 [.int .i64 x0, .int .i64 x1, .int .i64 x2])) := by kernel_rfl
theorem Try_Ya_fb12 (x0 : ByteArray) (x1 : Int) (x2 : Int) (x3 : Option Addr) (l3 c3 : Nat) (x4 : Option Addr) (l4 c4 : Nat) (w : World) : (Instr.build 76 [(0, .string x0), (1, .int .i64 x1), (3, .int .i64 x2), (4, .slice x3 l3 c3), (5, .slice x4 l4 c4)].toArray).run Try.prog w = .ok (.agg #[.string x0, .int .i64 x1, .int .i64 0, .int .i64 x2, .slice x3 l3 c3, .slice x4 l4 c4]) w := by kernel_rfl
theorem Try_Ya_fb13 (x0 : ByteArray) (x1 : Int) (x2 : Option Addr) (l2 c2 : Nat) (x3 : Option Addr) (l3 c3 : Nat) (w : World) : (Instr.build 76 [(0, .string x0), (2, .int .i64 x1), (4, .slice x2 l2 c2), (5, .slice x3 l3 c3)].toArray).run Try.prog w = .ok (.agg #[.string x0, .int .i64 0, .int .i64 x1, .int .i64 0, .slice x2 l2 c2, .slice x3 l3 c3]) w := by kernel_rfl
theorem Try_Ya_fb14 (x0 : ByteArray) (x1 : Int) (x2 : Int) (x3 : Int) (x4 : Option Addr) (l4 c4 : Nat) (x5 : Option Addr) (l5 c5 : Nat) (x6 : ByteArray) (x7 : Int) (x8 : Int) (x9 : Int) (x10 : Option Addr) (l10 c10 : Nat) (x11 : Option Addr) (l11 c11 : Nat) (w : World) : (Instr.buildSlice 23 2 [(0, .agg #[.string x0, .int .i64 x1, .int .i64 x2, .int .i64 x3, .slice x4 l4 c4, .slice x5 l5 c5]), (1, .agg #[.string x6, .int .i64 x7, .int .i64 x8, .int .i64 x9, .slice x10 l10 c10, .slice x11 l11 c11])].toArray).run Try.prog w = .ok (.slice (some ⟨w.heap.size, 0, none⟩) 2 2) (w.alloc (Go.Rt.blk 76 [.string x0, .int .i64 x1, .int .i64 x2, .int .i64 x3, .slice x4 l4 c4, .slice x5 l5 c5, .string x6, .int .i64 x7, .int .i64 x8, .int .i64 x9, .slice x10 l10 c10, .slice x11 l11 c11])) := by kernel_rfl
theorem Try_Ya_fb15 (x0 : Int) (x1 : Option Addr) (l1 c1 : Nat) (x2 : Option Addr) (l2 c2 : Nat) (w : World) : (Instr.build 25 [(0, .int .i64 x0), (1, .slice x1 l1 c1), (2, .slice x2 l2 c2)].toArray).run Try.prog w = .ok (.agg #[.int .i64 x0, .slice x1 l1 c1, .slice x2 l2 c2]) w := by kernel_rfl
theorem Try_flat31 : flatInts Try.prog 31 2 = true := by kernel_rfl
theorem Try_Ya_fb17 (x0 : Int) (w : World) : (Instr.buildSlice 39 1 [(0, .int .i64 x0)].toArray).run Try.prog w = .ok (.slice (some ⟨w.heap.size, 0, none⟩) 1 1) (w.alloc (Go.Rt.blk 3 [.int .i64 x0])) := by kernel_rfl
theorem ats_ofL {w0 w : World} {L : List (Nat × Obj)} {i b : Nat} {t : TypeId} {cs vs : List Value} (hs : St w0 w L) (hi : L[i]? = some (b, blk t cs)) (h : (cs.drop 0).take vs.length = vs) : Ats w0 L b 0 vs := ats_own hi h
theorem gen_Z {w0 w : World} {L : List (Nat × Obj)} (hs : St w0 w L) : ∃ Z, Z = L ∧ St w0 w Z := ⟨L, rfl, hs⟩
theorem con_true {k : FuncId} {args : List Value} {w : World} {x : Bool} {S : World → Prop} (h : Con Try.prog k args w fun v w' => v = .bool x ∧ S w') (hx : x = true) : Con Try.prog k args w fun v w' => v = .bool true ∧ S w' := by subst hx; exact h
theorem kz_own {w0 w : World} {B F : List (Nat × Obj)} {a : Nat × Obj} (h : St w0 w (B ++ (a :: F))) : St w0 w (B ++ F) := (h.perm (perm_mid B [a] F)).tail
def exP (bh bc z1 s1 z2 s2 : Nat) : AtB := ⟨some ⟨bh, 0, none⟩, 3, some ⟨bc, 0, none⟩, 2, fun i => if i = 0 then ⟨some ⟨z1, 0, none⟩, 3, some ⟨s1, 0, none⟩, 3⟩ else ⟨some ⟨z2, 0, none⟩, 3, some ⟨s2, 0, none⟩, 3⟩⟩
theorem ex_bin {w0 : World} {n : Int} {bh bc z1 s1 z2 s2 : Nat} :
    BIn w0 [(bc, blk 76 (krows (exB n).ctrs (exP bh bc z1 s1 z2 s2).pc).flatten), (s2, blk 3 (iv [13, 10, n])), (z2, blk 3 (iv [0, 2, 0])), (s1, blk 3 (iv [1, -1, 22])), (z1, blk 3 (iv [0, 0, 0])), (bh, blk 70 (hrows (exB n).hours).flatten)] (exB n) (exP bh bc z1 s1 z2 s2) where
  h := sl_own (i := 5) rfl (by intro row h; obtain ⟨q, _, rfl⟩ := List.mem_map.1 h; rfl) rfl
  c := sl_own (i := 0) rfl (krows_row _ _) rfl
  z := fun i hi => by
    match i, hi with
    | 0, _ => exact sl_own (i := 4) rfl (by intro row h; obtain ⟨q, _, rfl⟩ := List.mem_map.1 h; rfl) rfl
    | 1, _ => exact sl_own (i := 2) rfl (by intro row h; obtain ⟨q, _, rfl⟩ := List.mem_map.1 h; rfl) rfl
    | i + 2, hi => exact absurd hi (by simp [exB])
  s := fun i hi => by
    match i, hi with
    | 0, _ => exact sl_own (i := 3) rfl (by intro row h; obtain ⟨q, _, rfl⟩ := List.mem_map.1 h; rfl) rfl
    | 1, _ => exact sl_own (i := 1) rfl (by intro row h; obtain ⟨q, _, rfl⟩ := List.mem_map.1 h; rfl) rfl
    | i + 2, hi => exact absurd hi (by simp [exB])
  lh := by simp [exB]
  lc := by simp [exB]
  ch := by simp [exB, exP]
  cc := by simp [exB, exP]
  lz := fun i hi => by
    match i, hi with
    | 0, _ => exact ⟨by simp [exB], by simp [exB, exP]⟩
    | 1, _ => exact ⟨by simp [exB], by simp [exB, exP]⟩
    | i + 2, hi => exact absurd hi (by simp [exB])
  ls := fun i hi => by
    match i, hi with
    | 0, _ => exact ⟨by simp [exB], by simp [exB, exP]⟩
    | 1, _ => exact ⟨by simp [exB], by simp [exB, exP]⟩
    | i + 2, hi => exact absurd hi (by simp [exB])
  nm := by intro q hq; simp only [exB, List.mem_cons, List.not_mem_nil, or_false] at hq; rcases hq with rfl | rfl <;> (dsimp only; decide)
theorem c33 {w0 w : World} {F : List (Nat × Obj)} (x y : Int) (hs : St w0 w F) :
  Con Try.prog 33 [.int .i64 x, .int .i64 y] w fun v w' => v = .agg #[.int .i64 x, .int .i64 y] ∧ St w0 w' F := by
  refine con_of_wc (n := 8) Try.func33 rfl rfl (Nat.le_of_ble_eq_true rfl) ?_
  refine w_seq (fun K2 hK1 => ?_)
  refine w_region ?_
  refine w_alloc (cs := [_, _]) want_none Try.zeroValue31 rfl hs (fun b3 w4 hs5 => ?_)
  refine w_nil ?_
  refine q_then (hK1 _ _ ?_)
  refine w_seq (fun K7 hK6 => ?_)
  refine w_region ?_
  refine w_p (y_move (v := .int _ _) rfl rfl) rfl ?_
  refine w_p (y_move (v := .int _ _) rfl rfl) rfl ?_
  refine w_p (y_build (ps := [(0, _), (1, _)]) (pv := [(0, .int _ _), (1, .int _ _)]) rfl rfl (fun w => Try_Ya_fb7 _ _ w)) rfl ?_
  refine w_store (i := 0) (v := .agg #[.int _ _, .int _ _]) (vs := [_, _]) want_none Try.sizeOf31 rfl rfl rfl rfl rfl (by simp [Value.oneCell']) hs5 rfl (Nat.le_of_ble_eq_true rfl) (fun w8 hs9 => ?_)
  refine w_nil ?_
  refine q_then (hK6 _ _ ?_)
  refine w_ret ?_
  refine q_ret (l := [.cell 4 31]) (vs := [_]) rfl ⟨⟨rfl, _, rfl, run_loadVarN (vs := [_, _]) Try.isAgg31 Try.sizeOf31 hs9 (ats_own (i := 0) (vs := [_, _]) rfl rfl)⟩, trivial⟩ ?_
  exact ⟨rfl, hs9.tail⟩

theorem c32 {w0 w : World} {F : List (Nat × Obj)} (n : Int) (hs : St w0 w F) :
  Con Try.prog 32 [.int .i64 n] w fun v w' => ∃ p B, v = .agg ((exB n).cells p).toArray ∧ BIn w0 B (exB n) p ∧ St w0 w' (B ++ F) := by
  refine con_of_wc (n := 19) Try.func32 rfl rfl (Nat.le_of_ble_eq_true rfl) ?_
  refine w_seq (fun K2 hK1 => ?_)
  refine w_region ?_
  refine w_alloc (cs := [_, _, _]) want_none Try.zeroValue25 rfl hs (fun b3 w4 hs5 => ?_)
  refine w_nil ?_
  refine q_then (hK1 _ _ ?_)
  refine w_seq (fun K7 hK6 => ?_)
  refine w_region ?_
  refine w_call want_none Try.call33 rfl rfl rfl rfl (c33 _ _ hs5) ?_
  rintro _ w9 ⟨rfl, hs10⟩
  refine w_p (y_build (ps := [(1, _)]) (pv := [(1, .agg #[.int _ _, .int _ _])]) rfl rfl (fun w => Try_Ya_fb8 _ _ w)) rfl ?_
  refine w_call want_none Try.call33 rfl rfl rfl rfl (c33 _ _ hs10) ?_
  rintro _ w12 ⟨rfl, hs13⟩
  refine w_p (y_build (ps := [(1, _)]) (pv := [(1, .agg #[.int _ _, .int _ _])]) rfl rfl (fun w => Try_Ya_fb8 _ _ w)) rfl ?_
  refine w_call want_none Try.call33 rfl rfl rfl rfl (c33 _ _ hs13) ?_
  rintro _ w15 ⟨rfl, hs16⟩
  refine w_p (y_build (ps := [(0, _), (1, _)]) (pv := [(0, .int _ _), (1, .agg #[.int _ _, .int _ _])]) rfl rfl (fun w => Try_Ya_fb9 _ _ _ w)) rfl ?_
  refine w_bslice (ps := [(0, _), (1, _), (2, _)]) (pv := [(0, .agg #[.int _ _, .int _ _, .int _ _]), (1, .agg #[.int _ _, .int _ _, .int _ _]), (2, .agg #[.int _ _, .int _ _, .int _ _])]) (cs := [_, _, _, _, _, _, _, _, _]) want_none rfl rfl (fun w => Try_Ya_fb10 _ _ _ _ _ _ _ _ _ w) hs16 (fun b17 w18 hs19 => ?_)
  refine w_bslice (ps := [(0, _), (1, _), (2, _)]) (pv := [(0, .int _ _), (1, .int _ _), (2, .int _ _)]) (cs := [_, _, _]) want_none rfl rfl (fun w => Try_Ya_fb11 _ _ _ w) hs19 (fun b20 w21 hs22 => ?_)
  refine w_bslice (ps := [(0, _), (1, _), (2, _)]) (pv := [(0, .int _ _), (1, .int _ _), (2, .int _ _)]) (cs := [_, _, _]) want_none rfl rfl (fun w => Try_Ya_fb11 _ _ _ w) hs22 (fun b23 w24 hs25 => ?_)
  refine w_p (y_build (ps := [(0, _), (1, _), (3, _), (4, _), (5, _)]) (pv := [(0, .string _), (1, .int _ _), (3, .int _ _), (4, .slice _ _ _), (5, .slice _ _ _)]) rfl rfl (fun w => Try_Ya_fb12 _ _ _ _ _ _ _ _ _ w)) rfl ?_
  refine w_bslice (ps := [(0, _), (1, _), (2, _)]) (pv := [(0, .int _ _), (1, .int _ _), (2, .int _ _)]) (cs := [_, _, _]) want_none rfl rfl (fun w => Try_Ya_fb11 _ _ _ w) hs25 (fun b26 w27 hs28 => ?_)
  refine w_p (y_move (v := .int _ _) rfl rfl) rfl ?_
  refine w_bslice (ps := [(0, _), (1, _), (2, _)]) (pv := [(0, .int _ _), (1, .int _ _), (2, .int _ _)]) (cs := [_, _, _]) want_none rfl rfl (fun w => Try_Ya_fb11 _ _ _ w) hs28 (fun b29 w30 hs31 => ?_)
  refine w_p (y_build (ps := [(0, _), (2, _), (4, _), (5, _)]) (pv := [(0, .string _), (2, .int _ _), (4, .slice _ _ _), (5, .slice _ _ _)]) rfl rfl (fun w => Try_Ya_fb13 _ _ _ _ _ _ _ _ w)) rfl ?_
  refine w_bslice (ps := [(0, _), (1, _)]) (pv := [(0, .agg #[.string _, .int _ _, .int _ _, .int _ _, .slice _ _ _, .slice _ _ _]), (1, .agg #[.string _, .int _ _, .int _ _, .int _ _, .slice _ _ _, .slice _ _ _])]) (cs := [_, _, _, _, _, _, _, _, _, _, _, _]) want_none rfl rfl (fun w => Try_Ya_fb14 _ _ _ _ _ _ _ _ _ _ _ _ _ _ _ _ _ _ _ _ w) hs31 (fun b32 w33 hs34 => ?_)
  refine w_p (y_build (ps := [(0, _), (1, _), (2, _)]) (pv := [(0, .int _ _), (1, .slice _ _ _), (2, .slice _ _ _)]) rfl rfl (fun w => Try_Ya_fb15 _ _ _ _ _ _ _ w)) rfl ?_
  refine w_store (i := 6) (v := .agg #[.int _ _, .slice _ _ _, .slice _ _ _]) (vs := [_, _, _]) want_none Try.sizeOf25 rfl rfl rfl rfl rfl (by simp [Value.oneCell']) hs34 rfl (Nat.le_of_ble_eq_true rfl) (fun w35 hs36 => ?_)
  refine w_nil ?_
  refine q_then (hK6 _ _ ?_)
  refine w_ret ?_
  refine q_ret (l := [.cell 2 25]) (vs := [_]) rfl ⟨⟨rfl, _, rfl, run_loadVarN (vs := [_, _, _]) Try.isAgg25 Try.sizeOf25 hs36 (ats_own (i := 6) (vs := [_, _, _]) rfl rfl)⟩, trivial⟩ ?_
  exact ⟨exP b17 b32 b20 b23 b26 b29, [_, _, _, _, _, _], rfl, ex_bin, kz_own (B := [_, _, _, _, _, _]) hs36⟩

theorem c22 {w0 w : World} {F : List (Nat × Obj)}  (hs : St w0 w F) :
  Con Try.prog 22 [] w fun v w' => v = .bool true ∧ St w0 w' F := by
  refine con_of_wc (n := 150) Try.func22 rfl rfl (Nat.le_of_ble_eq_true rfl) ?_
  refine w_seq (fun K2 hK1 => ?_)
  refine w_region ?_
  refine w_p (y_assign (v := _) rfl rfl) rfl ?_
  refine w_nil ?_
  refine q_then (hK1 _ _ ?_)
  refine w_seq (fun K4 hK3 => ?_)
  refine w_region ?_
  refine w_call want_none Try.call32 rfl rfl rfl rfl (c32 21 hs) ?_
  rintro _ w6 ⟨p1, L1, rfl, hq1, hs7⟩
  replace hs7 := (show St _ _ (L1 ++ (F)) from hs7)
  refine w_call want_none Try.call32 rfl rfl rfl rfl (c32 30 hs7) ?_
  rintro _ w9 ⟨p2, L2, rfl, hq2, hs10⟩
  replace hs10 := (show St _ _ (L2 ++ (L1 ++ (F))) from hs10)
  refine w_alloc (cs := [_, _, _]) want_none Try.zeroValue25 rfl hs10 (fun b11 w12 hs13 => ?_)
  refine w_alloc (cs := [_, _, _]) want_none Try.zeroValue25 rfl hs13 (fun b14 w15 hs16 => ?_)
  refine w_store (i := 1) (v := .agg #[.int _ _, .slice _ _ _, .slice _ _ _]) (vs := [_, _, _]) want_none Try.sizeOf25 rfl rfl rfl rfl rfl (by simp [Value.oneCell']) hs16 rfl (Nat.le_of_ble_eq_true rfl) (fun w17 hs18 => ?_)
  refine w_store (i := 0) (v := .agg #[.int _ _, .slice _ _ _, .slice _ _ _]) (vs := [_, _, _]) want_none Try.sizeOf25 rfl rfl rfl rfl rfl (by simp [Value.oneCell']) hs18 rfl (Nat.le_of_ble_eq_true rfl) (fun w19 hs20 => ?_)
  refine w_nil ?_
  refine q_then (hK3 _ _ ?_)
  refine w_seq (fun K22 hK21 => ?_)
  obtain ⟨Z, hZ, hsZ⟩ := gen_Z hs20
  have hP1 : Ats w0 Z b11 0 ((exB 21).cells p1) := by rw [hZ]; exact ats_own (i := 1) (vs := (exB 21).cells p1) rfl rfl
  have hM1 : BIn w0 Z (exB 21) p1 := by rw [hZ]; exact BIn.mono hq1 (fun w h => h.tail.tail.drop.front)
  have hP2 : Ats w0 Z b14 0 ((exB 30).cells p2) := by rw [hZ]; exact ats_own (i := 0) (vs := (exB 30).cells p2) rfl rfl
  have hM2 : BIn w0 Z (exB 30) p2 := by rw [hZ]; exact BIn.mono hq2 (fun w h => h.tail.tail.front)
  refine w_region ?_
  refine w_p (y_loadN (vs := [_, _, _]) Try.isAgg25 Try.sizeOf25 hsZ rfl rfl hP1) rfl ?_
  refine w_call want_none Try.call18 rfl rfl rfl rfl ((c18 (exB 21) p1 hM1 0 hsZ).mono (fun v w' h => by rw [ex_went1] at h; exact h)) ?_
  rintro _ w24 ⟨rfl, hs25⟩
  refine w_p (y_move (v := .tuple _) rfl rfl) rfl ?_
  refine w_p (y_extract (v := .agg _) rfl rfl rfl) rfl ?_
  refine w_p (y_extract (v := .int _ _) rfl rfl rfl) rfl ?_
  refine w_alloc (cs := [_, _]) want_none Try.zeroValue31 rfl hs25 (fun b26 w27 hs28 => ?_)
  refine w_store (i := 0) (v := .agg #[.int _ _, .int _ _]) (vs := [_, _]) want_none Try.sizeOf31 rfl rfl rfl rfl rfl (by simp [Value.oneCell']) hs28 rfl (Nat.le_of_ble_eq_true rfl) (fun w29 hs30 => ?_)
  refine w_p (y_assign (v := .int _ _) rfl rfl) rfl ?_
  refine w_nil ?_
  refine q_then (hK21 _ _ ?_)
  refine w_seq (fun K32 hK31 => ?_)
  have hx3 := ats_ofL (i := 0) (vs := [_, _]) hs30 rfl rfl
  refine w_region ?_
  refine w_p (y_loadN (vs := [_, _, _]) Try.isAgg25 Try.sizeOf25 hs30.tail rfl rfl hP1) rfl ?_
  refine w_call want_none Try.call20 rfl rfl rfl rfl ((c20 (exB 21) p1 hM1.cons 0 hs30).mono (fun v w' h => by rw [ex_hold1] at h; exact h)) ?_
  rintro _ w34 ⟨rfl, hs35⟩
  refine w_p (y_move (v := .tuple _) rfl rfl) rfl ?_
  refine w_p (y_extract (v := .agg _) rfl rfl rfl) rfl ?_
  refine w_p (y_extract (v := .int _ _) rfl rfl rfl) rfl ?_
  refine w_alloc (cs := [_, _]) want_none Try.zeroValue31 rfl hs35 (fun b36 w37 hs38 => ?_)
  refine w_store (i := 0) (v := .agg #[.int _ _, .int _ _]) (vs := [_, _]) want_none Try.sizeOf31 rfl rfl rfl rfl rfl (by simp [Value.oneCell']) hs38 rfl (Nat.le_of_ble_eq_true rfl) (fun w39 hs40 => ?_)
  refine w_p (y_assign (v := .int _ _) rfl rfl) rfl ?_
  refine w_nil ?_
  refine q_then (hK31 _ _ ?_)
  refine w_seq (fun K42 hK41 => ?_)
  have hx5 := ats_ofL (i := 0) (vs := [_, _]) hs40 rfl rfl
  refine w_region ?_
  refine w_p (y_loadN (vs := [_, _, _]) Try.isAgg25 Try.sizeOf25 hs40.tail.tail rfl rfl hP1) rfl ?_
  refine w_call want_none Try.call23 rfl rfl rfl rfl ((c23 (exB 21) p1 hM1.cons.cons 0 hs40).mono (fun v w' h => by rw [ex_right1] at h; exact h)) ?_
  rintro _ w44 ⟨rfl, hs45⟩
  refine w_p (y_move (v := .tuple _) rfl rfl) rfl ?_
  refine w_p (y_extract (v := .int _ _) rfl rfl rfl) rfl ?_
  refine w_p (y_extract (v := .int _ _) rfl rfl rfl) rfl ?_
  refine w_p (y_assign (v := .int _ _) rfl rfl) rfl ?_
  refine w_p (y_assign (v := .int _ _) rfl rfl) rfl ?_
  refine w_nil ?_
  refine q_then (hK41 _ _ ?_)
  refine w_seq (fun K47 hK46 => ?_)
  refine w_region ?_
  refine w_p (y_loadN (vs := [_, _, _]) Try.isAgg25 Try.sizeOf25 hs45.tail.tail rfl rfl hP1) rfl ?_
  refine w_call want_none Try.call23 rfl rfl rfl rfl ((c23 (exB 21) p1 hM1.cons.cons 1 hs45).mono (fun v w' h => by rw [ex_right2] at h; exact h)) ?_
  rintro _ w49 ⟨rfl, hs50⟩
  refine w_p (y_move (v := .tuple _) rfl rfl) rfl ?_
  refine w_p (y_extract (v := .int _ _) rfl rfl rfl) rfl ?_
  refine w_p (y_extract (v := .int _ _) rfl rfl rfl) rfl ?_
  refine w_p (y_assign (v := .int _ _) rfl rfl) rfl ?_
  refine w_p (y_assign (v := .int _ _) rfl rfl) rfl ?_
  refine w_nil ?_
  refine q_then (hK46 _ _ ?_)
  refine w_seq (fun K52 hK51 => ?_)
  refine w_region ?_
  refine w_p (y_loadN (vs := [_, _, _]) Try.isAgg25 Try.sizeOf25 hs50.tail.tail rfl rfl hP1) rfl ?_
  refine w_call want_none Try.call25 rfl rfl rfl rfl ((c25 (exB 21) p1 hM1.cons.cons 1 1 hs50).mono (fun v w' h => by rw [ex_zero1] at h; exact h)) ?_
  rintro _ w54 ⟨rfl, hs55⟩
  refine w_p (y_move (v := .tuple _) rfl rfl) rfl ?_
  refine w_p (y_extract (v := .int _ _) rfl rfl rfl) rfl ?_
  refine w_p (y_extract (v := .int _ _) rfl rfl rfl) rfl ?_
  refine w_p (y_assign (v := .int _ _) rfl rfl) rfl ?_
  refine w_p (y_assign (v := .int _ _) rfl rfl) rfl ?_
  refine w_nil ?_
  refine q_then (hK51 _ _ ?_)
  refine w_seq (fun K57 hK56 => ?_)
  refine w_region ?_
  refine w_p (y_loadN (vs := [_, _, _]) Try.isAgg25 Try.sizeOf25 hs55.tail.tail rfl rfl hP1) rfl ?_
  refine w_call want_none Try.call27 rfl rfl rfl rfl ((c27 (exB 21) p1 hM1.cons.cons 0 0 hs55).mono (fun v w' h => by rw [ex_looks1] at h; exact h)) ?_
  rintro _ w59 ⟨B1, a1, c1, rfl, hr1, hs60⟩
  replace hs60 := (show St _ _ (B1 ++ (_ :: _ :: Z)) from hs60)
  refine w_p (y_move (v := .tuple _) rfl rfl) rfl ?_
  refine w_p (y_extract (v := .slice _ _ _) rfl rfl rfl) rfl ?_
  refine w_p (y_extract (v := .int _ _) rfl rfl rfl) rfl ?_
  refine w_p (y_assign (v := .slice _ _ _) rfl rfl) rfl ?_
  refine w_p (y_assign (v := .int _ _) rfl rfl) rfl ?_
  refine w_nil ?_
  refine q_then (hK56 _ _ ?_)
  refine w_seq (fun K62 hK61 => ?_)
  refine w_region ?_
  refine w_p (y_loadN (vs := [_, _, _]) Try.isAgg25 Try.sizeOf25 hs60.drop.tail.tail rfl rfl hP1) rfl ?_
  refine w_call want_none Try.call27 rfl rfl rfl rfl ((c27 (exB 21) p1 hM1.cons.cons.app 0 1 hs60).mono (fun v w' h => by rw [ex_looks2] at h; exact h)) ?_
  rintro _ w64 ⟨B2, a2, c2, rfl, hr2, hs65⟩
  replace hs65 := (show St _ _ (B2 ++ (B1 ++ (_ :: _ :: Z))) from hs65)
  refine w_p (y_move (v := .tuple _) rfl rfl) rfl ?_
  refine w_p (y_extract (v := .slice _ _ _) rfl rfl rfl) rfl ?_
  refine w_p (y_extract (v := .int _ _) rfl rfl rfl) rfl ?_
  refine w_p (y_assign (v := .slice _ _ _) rfl rfl) rfl ?_
  refine w_p (y_assign (v := .int _ _) rfl rfl) rfl ?_
  refine w_nil ?_
  refine q_then (hK61 _ _ ?_)
  refine w_seq (fun K67 hK66 => ?_)
  refine w_region ?_
  refine w_p (y_loadN (vs := [_, _, _]) Try.isAgg25 Try.sizeOf25 hs65.drop.drop.tail.tail rfl rfl hP2) rfl ?_
  refine w_call want_none Try.call30 rfl rfl rfl rfl ((c30 (exB 30) p2 hM2.cons.cons.app.app hs65).mono (fun v w' h => by rw [ex_wrong1] at h; exact h)) ?_
  rintro _ w69 ⟨B3, a3, c3, rfl, hr3, hs70⟩
  replace hs70 := (show St _ _ (B3 ++ (B2 ++ (B1 ++ (_ :: _ :: Z)))) from hs70)
  refine w_p (y_move (v := .tuple _) rfl rfl) rfl ?_
  refine w_p (y_extract (v := .slice _ _ _) rfl rfl rfl) rfl ?_
  refine w_p (y_extract (v := .int _ _) rfl rfl rfl) rfl ?_
  refine w_p (y_assign (v := .slice _ _ _) rfl rfl) rfl ?_
  refine w_p (y_assign (v := .int _ _) rfl rfl) rfl ?_
  refine w_nil ?_
  refine q_then (hK66 _ _ ?_)
  refine w_seq (fun K72 hK71 => ?_)
  refine w_region ?_
  refine w_p (y_loadN (vs := [_, _, _]) Try.isAgg25 Try.sizeOf25 hs70.drop.drop.drop.tail.tail rfl rfl hP2) rfl ?_
  refine w_call want_none Try.call18 rfl rfl rfl rfl ((c18 (exB 30) p2 hM2.cons.cons.app.app.app 0 hs70).mono (fun v w' h => by rw [ex_went2] at h; exact h)) ?_
  rintro _ w74 ⟨rfl, hs75⟩
  refine w_p (y_move (v := .tuple _) rfl rfl) rfl ?_
  refine w_p (y_extract (v := .agg _) rfl rfl rfl) rfl ?_
  refine w_p (y_extract (v := .int _ _) rfl rfl rfl) rfl ?_
  refine w_alloc (cs := [_, _]) want_none Try.zeroValue31 rfl hs75 (fun b76 w77 hs78 => ?_)
  refine w_store (i := 0) (v := .agg #[.int _ _, .int _ _]) (vs := [_, _]) want_none Try.sizeOf31 rfl rfl rfl rfl rfl (by simp [Value.oneCell']) hs78 rfl (Nat.le_of_ble_eq_true rfl) (fun w79 hs80 => ?_)
  refine w_p (y_assign (v := .int _ _) rfl rfl) rfl ?_
  refine w_nil ?_
  refine q_then (hK71 _ _ ?_)
  refine w_seq (fun K82 hK81 => ?_)
  refine w_region ?_
  refine w_p (y_loadN (vs := [_, _, _]) Try.isAgg25 Try.sizeOf25 hs80.tail.drop.drop.drop.tail.tail rfl rfl hP1) rfl ?_
  refine w_call want_none Try.call27 rfl rfl rfl rfl ((c27 (exB 21) p1 hM1.cons.cons.app.app.app.cons 0 (-1) hs80).mono (fun v w' h => by rw [ex_looks3] at h; exact h)) ?_
  rintro _ w84 ⟨B4, a4, c4, rfl, hr4, hs85⟩
  replace hs85 := (show St _ _ (B4 ++ (_ :: B3 ++ (B2 ++ (B1 ++ (_ :: _ :: Z))))) from hs85)
  refine w_p (y_move (v := .tuple _) rfl rfl) rfl ?_
  refine w_p (y_extract (v := .slice _ _ _) rfl rfl rfl) rfl ?_
  refine w_p (y_extract (v := .int _ _) rfl rfl rfl) rfl ?_
  refine w_p (y_assign (v := .slice _ _ _) rfl rfl) rfl ?_
  refine w_p (y_assign (v := .int _ _) rfl rfl) rfl ?_
  refine w_nil ?_
  refine q_then (hK81 _ _ ?_)
  refine w_seq (fun K87 hK86 => ?_)
  refine w_draw [] [(0, 0), (1, 0), (2, 0), (3, 0), (4, 0), (5, 0), (6, 0), (7, 0), (8, 0), (9, 0), (10, 0), (11, 0), (12, 0), (13, 0), (14, 0), (15, 0), (16, 0), (17, 0), (18, 0), (19, 0), (20, 0), (21, 0), (22, 0), (23, 0), (24, 0), (25, 0), (26, 0), (27, 0), (28, 0), (29, 0), (30, 0), (31, 0), (32, 0), (33, 0), (34, 0), (35, 0), (36, 0), (37, 0), (38, 0), (39, 1), (40, 2), (41, 0), (42, 0), (43, 0), (44, 1), (45, 2), (46, 0), (47, 0), (48, 0), (49, 0), (50, 0), (51, 0), (52, 0), (53, 0), (54, 0), (55, 0), (56, 0), (57, 0), (58, 0), (59, 0), (60, 0), (61, 0), (62, 2), (63, 2), (64, 0), (65, 0), (66, 0), (67, 0), (68, 0), (69, 0), (70, 0), (71, 0), (72, 2), (73, 2), (74, 0), (75, 0)] Try_mo (drawOK_of (by kernel_rfl)) hs85 (fun w88 hs89 => ?_)
  refine d_any rfl want_none rfl (fun _ => (y_move (v := .int _ _) rfl rfl)) ?_
  refine d_any rfl want_none rfl (fun _ => (y_eql rfl rfl rfl rfl)) ?_
  refine d_any rfl want_none rfl (fun _ => (y_move (v := .bool _) rfl rfl)) ?_
  refine d_any rfl (want_yes rfl rfl rfl) rfl (fun _ => (y_move (v := .int _ _) rfl rfl)) ?_
  refine d_any rfl (want_yes rfl rfl rfl) rfl (fun _ => (y_eql rfl rfl rfl rfl)) ?_
  refine d_any rfl want_none rfl (fun _ => (y_pickT (v := .bool _) rfl rfl rfl rfl)) ?_
  refine d_any rfl want_none rfl (fun _ => (y_move (v := .bool _) rfl rfl)) ?_
  refine d_any rfl (want_yes rfl rfl rfl) rfl (fun _ => (y_move (v := .int _ _) rfl rfl)) ?_
  refine d_any rfl (want_yes rfl rfl rfl) rfl (fun _ => (y_eql rfl rfl rfl rfl)) ?_
  refine d_any rfl want_none rfl (fun _ => (y_pickT (v := .bool _) rfl rfl rfl rfl)) ?_
  refine d_any rfl want_none rfl (fun _ => (y_move (v := .bool _) rfl rfl)) ?_
  refine d_any rfl (want_yes rfl rfl rfl) rfl (fun _ => (y_move (v := .int _ _) rfl rfl)) ?_
  refine d_any rfl (want_yes rfl rfl rfl) rfl (fun _ => (y_eql rfl rfl rfl rfl)) ?_
  refine d_any rfl want_none rfl (fun _ => (y_pickT (v := .bool _) rfl rfl rfl rfl)) ?_
  refine d_any rfl want_none rfl (fun _ => (y_move (v := .bool _) rfl rfl)) ?_
  refine d_any rfl (want_yes rfl rfl rfl) rfl (fun _ => (y_move (v := .int _ _) rfl rfl)) ?_
  refine d_any rfl (want_yes rfl rfl rfl) rfl (fun _ => (y_eql rfl rfl rfl rfl)) ?_
  refine d_any rfl want_none rfl (fun _ => (y_pickT (v := .bool _) rfl rfl rfl rfl)) ?_
  refine d_any rfl want_none rfl (fun _ => (y_move (v := .bool _) rfl rfl)) ?_
  refine d_any rfl (want_yes rfl rfl rfl) rfl (fun _ => (y_move (v := .int _ _) rfl rfl)) ?_
  refine d_any rfl (want_yes rfl rfl rfl) rfl (fun _ => (y_eql rfl rfl rfl rfl)) ?_
  refine d_any rfl want_none rfl (fun _ => (y_pickT (v := .bool _) rfl rfl rfl rfl)) ?_
  refine d_any rfl want_none rfl (fun _ => (y_move (v := .bool _) rfl rfl)) ?_
  refine d_any rfl (want_yes rfl rfl rfl) rfl (fun _ => (y_move (v := .int _ _) rfl rfl)) ?_
  refine d_any rfl (want_yes rfl rfl rfl) rfl (fun _ => (y_eql rfl rfl rfl rfl)) ?_
  refine d_any rfl want_none rfl (fun _ => (y_pickT (v := .bool _) rfl rfl rfl rfl)) ?_
  refine d_any rfl want_none rfl (fun _ => (y_move (v := .bool _) rfl rfl)) ?_
  refine d_any rfl (want_yes rfl rfl rfl) rfl (fun _ => (y_move (v := .int _ _) rfl rfl)) ?_
  refine d_any rfl (want_yes rfl rfl rfl) rfl (fun _ => (y_eql rfl rfl rfl rfl)) ?_
  refine d_any rfl want_none rfl (fun _ => (y_pickT (v := .bool _) rfl rfl rfl rfl)) ?_
  refine d_any rfl want_none rfl (fun _ => (y_move (v := .bool _) rfl rfl)) ?_
  refine d_any rfl (want_yes rfl rfl rfl) rfl (fun _ => (y_move (v := .int _ _) rfl rfl)) ?_
  refine d_any rfl (want_yes rfl rfl rfl) rfl (fun _ => (y_eql rfl rfl rfl rfl)) ?_
  refine d_any rfl want_none rfl (fun _ => (y_pickT (v := .bool _) rfl rfl rfl rfl)) ?_
  refine d_any rfl want_none rfl (fun _ => (y_move (v := .bool _) rfl rfl)) ?_
  refine d_any rfl (want_yes rfl rfl rfl) rfl (fun _ => (y_move (v := .int _ _) rfl rfl)) ?_
  refine d_any rfl (want_yes rfl rfl rfl) rfl (fun _ => (y_eql rfl rfl rfl rfl)) ?_
  refine d_any rfl want_none rfl (fun _ => (y_pickT (v := .bool _) rfl rfl rfl rfl)) ?_
  refine d_any rfl want_none rfl (fun _ => (y_move (v := .bool _) rfl rfl)) ?_
  refine d_take rfl (want_yes rfl rfl rfl) rfl hs89 (fun _ hq => (y_loadN (vs := [_, _]) Try.isAgg31 Try.sizeOf31 hq.drop.tail.drop.drop.drop.tail rfl rfl hx3)) ?_
  refine d_eff rfl ?_
  refine w_call (want_yes rfl rfl rfl) Try.call33 rfl rfl rfl rfl (c33 _ _ hs89) ?_
  rintro _ w91 ⟨rfl, hs92⟩
  refine w_nil ?_
  refine qn ⟨hs92, ?_⟩
  refine d_any rfl (want_yes rfl rfl rfl) rfl (fun _ => (y_eqFlat (l := [_, _]) (m := [_, _]) Try.eqGuardType31 Try_flat31 (by first | omega | rfl | (simp only [List.length_map, List.length_set, List.length_append, List.length_take, List.length_drop, List.length_replicate, List.length_cons, List.length_nil] <;> omega)) (by first | omega | rfl | (simp only [List.length_map, List.length_set, List.length_append, List.length_take, List.length_drop, List.length_replicate, List.length_cons, List.length_nil] <;> omega)) rfl rfl rfl rfl rfl rfl)) ?_
  refine d_any rfl want_none rfl (fun _ => (y_pickT (v := .bool _) rfl rfl rfl rfl)) ?_
  refine d_any rfl want_none rfl (fun _ => (y_move (v := .bool _) rfl rfl)) ?_
  refine d_split (fun h93 => ?_) (fun h93 => ?_)
  ·
   try simp only [zA, zB, zC, zD, zE, zF] at h93
   refine d_take rfl (want_yes rfl rfl rfl) rfl hs92 (fun _ hq => (y_loadN (vs := [_, _]) Try.isAgg31 Try.sizeOf31 hq.drop.tail.drop.drop.drop rfl rfl hx5)) ?_
   refine d_eff rfl ?_
   refine w_call (want_yes rfl rfl rfl) Try.call33 rfl rfl rfl rfl (c33 _ _ hs92) ?_
   rintro _ w95 ⟨rfl, hs96⟩
   refine w_nil ?_
   refine qn ⟨hs96, ?_⟩
   refine d_any rfl (want_yes rfl rfl rfl) rfl (fun _ => (y_eqFlat (l := [_, _]) (m := [_, _]) Try.eqGuardType31 Try_flat31 (by first | omega | rfl | (simp only [List.length_map, List.length_set, List.length_append, List.length_take, List.length_drop, List.length_replicate, List.length_cons, List.length_nil] <;> omega)) (by first | omega | rfl | (simp only [List.length_map, List.length_set, List.length_append, List.length_take, List.length_drop, List.length_replicate, List.length_cons, List.length_nil] <;> omega)) rfl rfl rfl rfl rfl rfl)) ?_
   refine d_any rfl want_none rfl (fun _ => (y_pickT (v := .bool _) rfl rfl rfl rfl)) ?_
   refine d_any rfl want_none rfl (fun _ => (y_move (v := .bool _) rfl rfl)) ?_
   refine d_split (fun h97 => ?_) (fun h97 => ?_)
   ·
    try simp only [zA, zB, zC, zD, zE, zF] at h97
    refine d_any rfl (want_yes rfl rfl rfl) rfl (fun _ => (y_move (v := .int _ _) rfl rfl)) ?_
    refine d_any rfl (want_yes rfl rfl rfl) rfl (fun _ => (y_eql rfl rfl rfl rfl)) ?_
    refine d_any rfl want_none rfl (fun _ => (y_pickT (v := .bool _) rfl rfl rfl rfl)) ?_
    refine d_any rfl want_none rfl (fun _ => (y_move (v := .bool _) rfl rfl)) ?_
    refine d_any rfl (want_yes rfl rfl rfl) rfl (fun _ => (y_move (v := .int _ _) rfl rfl)) ?_
    refine d_any rfl (want_yes rfl rfl rfl) rfl (fun _ => (y_eql rfl rfl rfl rfl)) ?_
    refine d_any rfl want_none rfl (fun _ => (y_pickT (v := .bool _) rfl rfl rfl rfl)) ?_
    refine d_any rfl want_none rfl (fun _ => (y_move (v := .bool _) rfl rfl)) ?_
    refine d_any rfl (want_yes rfl rfl rfl) rfl (fun _ => (y_move (v := .int _ _) rfl rfl)) ?_
    refine d_any rfl (want_yes rfl rfl rfl) rfl (fun _ => (y_eql rfl rfl rfl rfl)) ?_
    refine d_any rfl want_none rfl (fun _ => (y_pickT (v := .bool _) rfl rfl rfl rfl)) ?_
    refine d_any rfl want_none rfl (fun _ => (y_move (v := .bool _) rfl rfl)) ?_
    refine d_any rfl (want_yes rfl rfl rfl) rfl (fun _ => (y_move (v := .slice _ _ _) rfl rfl)) ?_
    refine d_eff rfl ?_
    refine w_bslice (ps := [(0, _)]) (pv := [(0, .int _ _)]) (cs := [_]) (want_yes rfl rfl rfl) rfl rfl (fun w => Try_Ya_fb17 _ w) hs96 (fun b98 w99 hs100 => ?_)
    refine w_nil ?_
    refine qn ⟨hs100.tail, ?_⟩
    refine d_eff rfl ?_
    refine w_call (want_yes rfl rfl rfl) Try.call29 rfl rfl rfl rfl (con_true (c29 _ _ [0] [0] _ _ (by decide) hr1.top.app.app.cons.app.cons (sl_own (i := 0) (rows := [[_]]) rfl (by simp) rfl) hs100) (by decide)) ?_
    rintro _ w102 ⟨rfl, hs103⟩
    refine w_nil ?_
    refine qn ⟨hs103.tail, ?_⟩
    refine d_any rfl want_none rfl (fun _ => (y_pickT (v := .bool _) rfl rfl rfl rfl)) ?_
    refine d_any rfl want_none rfl (fun _ => (y_move (v := .bool _) rfl rfl)) ?_
    refine d_any rfl (want_yes rfl rfl rfl) rfl (fun _ => (y_move (v := .slice _ _ _) rfl rfl)) ?_
    refine d_any rfl (want_yes rfl rfl rfl) rfl (fun _ => (y_lenS Try.underlying39 rfl rfl)) ?_
    refine d_any rfl (want_yes rfl rfl rfl) rfl (fun _ => (y_eql rfl rfl rfl rfl)) ?_
    refine d_any rfl want_none rfl (fun _ => (y_pickT (v := .bool _) rfl rfl rfl rfl)) ?_
    refine d_any rfl want_none rfl (fun _ => (y_move (v := .bool _) rfl rfl)) ?_
    refine d_split (fun h104 => ?_) (fun h104 => ?_)
    ·
     try simp only [zA, zB, zC, zD, zE, zF] at h104
     refine d_any rfl (want_yes rfl rfl rfl) rfl (fun _ => (y_move (v := .slice _ _ _) rfl rfl)) ?_
     refine d_eff rfl ?_
     refine w_bslice (ps := [(0, _)]) (pv := [(0, .int _ _)]) (cs := [_]) (want_yes rfl rfl rfl) rfl rfl (fun w => Try_Ya_fb17 _ w) hs103 (fun b105 w106 hs107 => ?_)
     refine w_nil ?_
     refine qn ⟨hs107.tail.tail, ?_⟩
     refine d_eff rfl ?_
     refine w_call (want_yes rfl rfl rfl) Try.call29 rfl rfl rfl rfl (con_true (c29 _ _ [5] [5] _ _ (by decide) hr3.top.cons.app.cons.cons (sl_own (i := 0) (rows := [[_]]) rfl (by simp) rfl) hs107) (by decide)) ?_
     rintro _ w109 ⟨rfl, hs110⟩
     refine w_nil ?_
     refine qn ⟨hs110.tail.tail, ?_⟩
     refine d_any rfl want_none rfl (fun _ => (y_pickT (v := .bool _) rfl rfl rfl rfl)) ?_
     refine d_any rfl want_none rfl (fun _ => (y_assign (v := .bool _) rfl rfl)) ?_
     refine d_nil ?_
     refine q_then (hK86 _ _ ?_)
     refine w_ret ?_
     refine q_ret (l := [.tmp 0]) (vs := [_]) rfl ⟨⟨rfl, show _ = (.bool _ : Value) from rfl⟩, trivial⟩ ?_
     exact ⟨rfl, (St.cast hZ hs110.tail.tail.drop.tail.drop.drop.drop.tail.tail).tail.tail.drop.drop⟩
    ·
     exfalso; simp at h104
   ·
    exfalso; simp at h97
  ·
   exfalso; simp at h93

end Go.Proofs
/- Walks of this seat, printed by gen.py over the engine: what each function returns, in whatever world. No conditions but those of each contract. -/
set_option linter.unusedVariables false
set_option linter.unusedSimpArgs false
set_option maxRecDepth 20000
namespace Go.Proofs
open Go.Rt Go.Rt.Ch
open Go.Rt.Ha (firstE firstE_step firstE_stop firstE_end failE nameE felt spanL upto span_mem listL fewest fewTo bit before fewStep drop_lt drop_get drop_next drop_done drop_notin set_take set_zero take_less Lot Bunch feltTo fTo fPart felt_zero felt_step fTo_succ fTo_len fPart_succ fPart_len fPart_all filt_yes filt_no upto_len at_ someOf choicesTo cfind_here cfind_next cfind_on choices_fin pick_idx pickL_in find_on find_next rising rising_step rising_end rising_stop list_rising before_fewer)
attribute [local irreducible] WL WC Con Yd At Ats Sl Agree DW
theorem Try_Zh_fb8 (x0 : Int) (w : World) : (Instr.buildSlice 39 1 [(0, .int .i64 x0)].toArray).run Try.prog w = .ok (.slice (some ⟨w.heap.size, 0, none⟩) 1 1) (w.alloc (Go.Rt.blk 3 [.int .i64 x0])) := by kernel_rfl
theorem wrongF_short (b : Board) : (wrongP b).1.length ≤ 64 := by
  unfold wrongP
  split
  · simp
  · rename_i h
    have hok := check_ok (Decidable.not_not.1 h)
    have h1 := (mN_le hok).1
    have h2 := Go.Rt.Ch.few_len (wrongS b) (mN b) (1 <<< mN b)
    unfold mN at h1 h2
    unfold Go.Rt.Ha.fewest; dsimp only; omega
theorem wrong_bad {b : Board} (h : ¬ (check b).2.2 = 0) : wrongP b = ([], (check b).2.2) := by unfold wrongP; rw [if_pos h]
theorem hold_but {b : Board} (hc : (check b).2.2 = 0) {s : Nat} (hF : WrongF b s) {t : Nat} (ht : t < 2 ^ mN b) (hd : Go.Rt.Ha.bitDiff t (subTo b (mN b)) = 0) : (holdP (butB b t) 0).2 = 8 ∨ ((holdP (butB b t) 0).2 = 0 ∧ before (listL t (mN b)) (listL s (mN b)) = false) := by
  rw [hold_zero (butB_check hc t)]
  by_cases he : truths (butB b t) = []
  · rw [if_pos he]; exact .inl rfl
  · rw [if_neg he]; exact .inr ⟨rfl, few_other hF ht hd he⟩
theorem hold_one {b : Board} (hc : (check b).2.2 = 0) {s : Nat} (hF : WrongF b s) : (holdP (butB b s) 0).2 = 0 := by
  rw [hold_zero (butB_check hc s), if_neg (wrongS_but hF.lt hF.yes)]
theorem own_other {b : Board} {x i : Nat} {v : Value} {B : List (Nat × Obj)} (hi : i < (nums b).length) (hb : bit x i = 1) (h : Rt.Own v 3 1 ((otherTo b x i).length + 1) (iv (otherTo b x i) ++ [[Value.int .i64 (nums b)[i]]].flatten) B) : Rt.Own v 3 1 (otherTo b x (i + 1)).length (iv (otherTo b x (i + 1))) B := by
  rw [other_y hi hb]; simpa [iv] using h
theorem c9 {w0 w : World} {F : List (Nat × Obj)} (b : Board) (p : AtB) (hm : BIn w0 F b p) (hnl : ∀ i, i < b.ctrs.length → (p.pc i).as = none → (p.pc i).cs = 0) (z : Int) (hz : 0 ≤ z ∧ z ≤ 255) (hs : St w0 w F) :
  Con Try.prog 9 [.agg (b.cells p).toArray, .int .u8 z] w fun v w' => v = .bool true ∧ St w0 w' F := by
  refine con_of_wc (n := 112) Try.func9 rfl rfl (Nat.le_of_ble_eq_true rfl) ?_
  have hlh0 := hm.lh
  have hlc0 := hm.lc
  obtain ⟨x, hx⟩ : ∃ x : Nat, z = (x : Int) := ⟨z.toNat, by omega⟩
  subst hx
  have hwsh := wrongF_short b
  refine w_seq (fun K2 hK1 => ?_)
  refine w_region ?_
  refine w_box (v := .agg #[.int _ _, .slice _ _ _, .slice _ _ _]) (cs := [_, _, _]) want_none rfl rfl rfl hs (fun b3 w4 hs5 => ?_)
  refine w_p (y_assign (v := _) rfl rfl) rfl ?_
  refine w_nil ?_
  refine q_then (hK1 _ _ ?_)
  refine w_seq (fun K7 hK6 => ?_)
  have hbx := ats_ofK (i := 0) (vs := b.cells p) hs5 rfl rfl
  refine w_region ?_
  refine w_p (y_loadN (vs := [_, _, _]) Try.isAgg25 Try.sizeOf25 hs5 rfl rfl hbx) rfl ?_
  refine w_call want_none Try.call30 rfl rfl rfl rfl (c30 b _ hm.cons hs5) ?_
  rintro _ w9 ⟨B1, a1, c1, rfl, hq1, hs10⟩
  replace hs10 := (show St _ _ (B1 ++ (_ :: F)) from hs10)
  refine w_p (y_move (v := .tuple _) rfl rfl) rfl ?_
  refine w_p (y_extract (v := .slice _ _ _) rfl rfl rfl) rfl ?_
  refine w_p (y_extract (v := .int _ _) rfl rfl rfl) rfl ?_
  refine w_p (y_assign (v := .slice _ _ _) rfl rfl) rfl ?_
  refine w_p (y_assign (v := .int _ _) rfl rfl) rfl ?_
  refine w_nil ?_
  refine q_then (hK6 _ _ ?_)
  refine w_seq (fun K12 hK11 => ?_)
  refine w_seq (fun K14 hK13 => ?_)
  refine w_region ?_
  refine w_p (y_loadN (vs := [_, _, _]) Try.isAgg25 Try.sizeOf25 hs10.drop rfl rfl hbx) rfl ?_
  refine w_call want_none Try.call34 rfl rfl rfl rfl (c34 b p hm.cons.app hs10) ?_
  rintro _ w16 ⟨rfl, hs17⟩
  refine w_p (y_not rfl rfl) rfl ?_
  refine w_nil ?_
  refine q_then (hK13 _ _ ?_)
  refine w_cond rfl rfl (fun h18 => ?_) (fun h18 => ?_)
  ·
   try simp only [zA, zB, zC, zD, zE, zF] at h18
   refine w_seq (fun K20 hK19 => ?_)
   have hck : ¬ (check b).2.2 = 0 := by first | assumption | (intro h0; simp_all)
   have hwb := wrong_bad hck
   refine w_region ?_
   refine w_p (y_move (v := .int _ _) rfl rfl) rfl ?_
   refine w_p (y_neq rfl rfl rfl rfl) rfl ?_
   refine w_p (y_move (v := .bool _) rfl rfl) rfl ?_
   refine w_split (fun h21 => ?_) (fun h21 => ?_)
   ·
    try simp only [zA, zB, zC, zD, zE, zF] at h21
    refine w_y rfl rfl rfl (y_move (v := .slice _ _ _) rfl rfl) rfl ?_
    refine w_y rfl rfl rfl (y_lenS Try.underlying39 rfl rfl) rfl ?_
    refine w_y rfl rfl rfl (y_eql rfl rfl rfl rfl) rfl ?_
    refine w_p (y_pickT (v := .bool _) rfl rfl rfl rfl) rfl ?_
    refine w_p (y_move (v := .bool _) rfl rfl) rfl ?_
    refine w_split (fun h22 => ?_) (fun h22 => ?_)
    ·
     try simp only [zA, zB, zC, zD, zE, zF] at h22
     refine w_call (want_yes rfl rfl rfl) Try.call22 rfl rfl rfl rfl (c22 hs17) ?_
     rintro _ w24 ⟨rfl, hs25⟩
     refine w_p (y_pickT (v := .bool _) rfl rfl rfl rfl) rfl ?_
     refine w_p (y_assign (v := .bool _) rfl rfl) rfl ?_
     refine w_nil ?_
     refine q_then (hK19 _ _ ?_)
     refine w_ret ?_
     refine q_then_ret ?_
     refine q_ret (l := [.tmp 4]) (vs := [_]) rfl ⟨⟨rfl, show _ = (.bool _ : Value) from rfl⟩, trivial⟩ ?_
     exact ⟨rfl, hs25.drop.tail⟩
    ·
     exfalso
     try simp only [zA, zB, zC, zD, zE, zF] at h22
     rw [hwb] at h22; simp at h22
   ·
    exfalso
    try simp only [zA, zB, zC, zD, zE, zF] at h21
    rw [hwb] at h21; exact hck (by simpa using h21)
  ·
   try simp only [zA, zB, zC, zD, zE, zF] at h18
   refine w_skip ?_
   refine q_then (hK11 _ _ ?_)
   refine w_seq (fun K27 hK26 => ?_)
   have hck : (check b).2.2 = 0 := by first | assumption | (refine Decidable.byContradiction fun h0 => ?_; simp_all)
   have hok := check_ok hck
   obtain ⟨s, hF⟩ := wrong_few hck
   have hml := (mN_le hok).1
   have hnl8 := nums_len b
   have hlh := hok.lh
   have hlc := hok.lc
   have hw1 : (wrongP b).1 = listL s (mN b) := by rw [hF.is]
   have hri : rising (mN b : Int) (-1) (wrongP b).1 = true := by rw [hw1]; exact list_rising s _ (Int.le_refl _)
   obtain ⟨t, ht, hot, htd⟩ := other_num hok x
   have hg := hold_but hck hF ht htd
   have hg1 := hold_one hck hF
   have hmi : ((b.hours.length : Int) * (b.ctrs.length : Int)) = ((mN b : Nat) : Int) := by unfold mN; push_cast; rfl
   refine w_region ?_
   refine w_p (y_loadN (vs := [_, _, _]) Try.isAgg25 Try.sizeOf25 hs17.drop rfl rfl hbx) rfl ?_
   refine w_call want_none Try.call39 rfl rfl rfl rfl (c39 b p hm.cons.app hok hs17) ?_
   rintro _ w29 ⟨FB, hownF, hs30⟩
   replace hs30 := (show St _ _ (FB ++ (B1 ++ (_ :: F))) from hs30)
   obtain ⟨aF, cF, rfl, hslF, _, _⟩ := own_ints (w0 := w0) hownF
   refine w_p (y_assign (v := .slice _ _ _) rfl rfl) rfl ?_
   refine w_nil ?_
   refine q_then (hK26 _ _ ?_)
   refine w_seq (fun K32 hK31 => ?_)
   refine w_region ?_
   refine w_p (y_assign (v := _) rfl rfl) rfl ?_
   refine w_nil ?_
   refine q_then (hK31 _ _ ?_)
   refine w_seq (fun K34 hK33 => ?_)
   refine w_seq (fun K36 hK35 => ?_)
   refine w_region ?_
   refine w_p (y_assign (v := _) rfl rfl) rfl ?_
   refine w_nil ?_
   refine q_then (hK35 _ _ ?_)
   refine w_block ?_
   refine w_loop [8, 9, 35, 36, 37, 38, 39, 40, 41, 42, 43, 44, 45, 46, 47, 48, 49, 50, 51] [8, 9] (fun k vs w => ∃ (i : Nat) (v : Value) (OB : List (Nat × Obj)), vs = [v, .int .i64 i] ∧ i ≤ (nums b).length ∧ k = (nums b).length - i ∧ Rt.Own v 3 1 (otherTo b x i).length (iv (otherTo b x i)) OB ∧ St w0 w (OB ++ (FB ++ (B1 ++ ((b3, blk 25 (b.cells p)) :: F))))) ((nums b).length) ?_ ?_
   ·
    exact ⟨0, _, [], rfl, by omega, by omega, own_nil 3 1, hs30⟩
   ·
    intro k vs μ w39 hI K38 hN37
    obtain ⟨i, v, OB, rfl, hia, rfl, hown, hs⟩ := hI
    refine w_seq (fun K41 hK40 => ?_)
    refine w_seq (fun K43 hK42 => ?_)
    refine w_region ?_
    refine w_p (y_move (v := .int _ _) rfl rfl) rfl ?_
    refine w_p (y_move (v := .slice _ _ _) rfl rfl) rfl ?_
    refine w_p (y_lenS Try.underlying39 rfl rfl) rfl ?_
    refine w_p (y_lss rfl rfl rfl rfl) rfl ?_
    refine w_nil ?_
    refine q_then (hK42 _ _ ?_)
    refine w_cond rfl rfl (fun h44 => ?_) (fun h44 => ?_)
    ·
     try simp only [zA, zB, zC, zD, zE, zF] at h44
     refine w_skip ?_
     refine q_then (hK40 _ _ ?_)
     refine w_seq (fun K46 hK45 => ?_)
     refine w_block ?_
     refine w_seq (fun K48 hK47 => ?_)
     have hi2 : i < (nums b).length := by omega
     have hol := other_len b x i
     refine w_region ?_
     refine w_p (y_move (v := .int _ _) rfl rfl) rfl ?_
     refine w_p (y_u8int (by rw [Try.underlying5]; rfl) Try.underlying3 rfl rfl (by omega) (by omega)) rfl ?_
     refine w_p (y_move (v := .int _ _) rfl rfl) rfl ?_
     refine w_call want_none Try.call40 rfl rfl rfl rfl (bit_con x i (by omega) (by omega) (by omega) hs) ?_
     rintro _ w50 ⟨rfl, hs51⟩
     refine w_nil ?_
     refine q_then (hK47 _ _ ?_)
     refine w_cond rfl rfl (fun h52 => ?_) (fun h52 => ?_)
     ·
      try simp only [zA, zB, zC, zD, zE, zF] at h52
      obtain ⟨bx, ox, hbx2, hx0⟩ := sl_ints hslF hi2
      subst hbx2
      have hx := hx0.top (F := (B1 ++ ((b3, blk 25 (b.cells p)) :: F)))
      refine w_region ?_
      refine w_p (y_move (v := v) rfl rfl) rfl ?_
      refine w_p (y_move (v := .slice _ _ _) rfl rfl) rfl ?_
      refine w_p (y_move (v := .int _ _) rfl rfl) rfl ?_
      refine w_p (y_indexS Try.underlying39 Try.sizeOf3 rfl rfl rfl rfl (i := i) rfl hi2) rfl ?_
      refine w_p (y_load1 Try.isAgg3 hs51.drop rfl rfl hx) rfl ?_
      refine w_bslice (ps := [(0, _)]) (pv := [(0, .int _ _)]) (cs := [_]) want_none rfl rfl (fun w => Try_Zh_fb8 _ w) hs51 (fun b53 w54 hs55 => ?_)
      refine w_append (X := (_ :: [])) (B := OB) (rows := [[_]]) (sz := 1) (bytes := 8) want_none Try.underlying39 Try_info3 rfl rfl rfl rfl rfl rfl rfl rfl rfl hs55 hown (sl_own (i := 0) rfl (by simp) rfl) rfl (by simp) (by simp [Value.oneCell']) (by simp only [maxLen]; omega) (by omega) (fun v56 w57 B58 ho59 hs60 => ?_)
      replace hs60 := (show St _ _ (_ :: B58 ++ (FB ++ (B1 ++ (_ :: F)))) from hs60)
      refine w_p (y_assign (v := v56) rfl rfl) rfl ?_
      refine w_nil ?_
      refine q_blk_normal ?_
      refine q_then (hK45 _ _ ?_)
      refine w_region ?_
      refine w_p (y_move (v := .int _ _) rfl rfl) rfl ?_
      refine w_p (y_add rfl rfl rfl rfl (by omega) (by omega)) rfl ?_
      refine w_p (y_assign (v := .int _ _) rfl rfl) rfl ?_
      refine w_nil ?_
      refine q_then (hN37 _ _ (Nx.intro ((nums b).length - (i + 1)) (by omega) (by repeat (first | exact agree_mix | refine agree_upd rfl ?_ | refine agree_updL rfl ?_ _ | refine agree_mixin rfl ?_)) ?_))
      exact ⟨i + 1, _, _, rfl, by omega, rfl, own_other hi2 (by assumption) ho59, hs60.tail⟩
     ·
      try simp only [zA, zB, zC, zD, zE, zF] at h52
      refine w_skip ?_
      refine q_blk_normal ?_
      refine q_then (hK45 _ _ ?_)
      refine w_region ?_
      refine w_p (y_move (v := .int _ _) rfl rfl) rfl ?_
      refine w_p (y_add rfl rfl rfl rfl (by omega) (by omega)) rfl ?_
      refine w_p (y_assign (v := .int _ _) rfl rfl) rfl ?_
      refine w_nil ?_
      refine q_then (hN37 _ _ (Nx.intro ((nums b).length - (i + 1)) (by omega) (by repeat (first | exact agree_mix | refine agree_upd rfl ?_ | refine agree_updL rfl ?_ _ | refine agree_mixin rfl ?_)) ?_))
      exact ⟨i + 1, v, OB, rfl, by omega, rfl, by rw [other_n (by assumption)]; exact hown, hs51⟩
    ·
     try simp only [zA, zB, zC, zD, zE, zF] at h44
     refine w_exit ?_
     refine q_then_exit ?_
     refine q_then_exit ?_
     refine q_blk_this ?_
     refine q_then (hK33 _ _ ?_)
     refine w_seq (fun K62 hK61 => ?_)
     refine w_seq (fun K64 hK63 => ?_)
     refine w_region ?_
     have hin : i = (nums b).length := by omega
     subst hin
     have hol := other_len b x (nums b).length
     obtain ⟨aO, cO, rfl, hslO, _, _⟩ := own_ints (w0 := w0) hown
     refine w_p (y_move (v := .int _ _) rfl rfl) rfl ?_
     refine w_p (y_neq rfl rfl rfl rfl) rfl ?_
     refine w_p (y_move (v := .bool _) rfl rfl) rfl ?_
     refine w_split (fun h65 => ?_) (fun h65 => ?_)
     ·
      exfalso
      try simp only [zA, zB, zC, zD, zE, zF] at h65
      rw [hF.is] at h65; simp at h65
     ·
      try simp only [zA, zB, zC, zD, zE, zF] at h65
      refine w_y rfl rfl rfl (y_move (v := .slice _ _ _) rfl rfl) rfl ?_
      refine w_y rfl rfl rfl (y_fieldAddr (o := 1) (i := 1) Try.underlying25 rfl Try.sizeOf22 rfl rfl rfl) rfl ?_
      refine w_y rfl rfl rfl (y_load1 Try.isAgg22 hs.drop.drop.drop rfl rfl (show Ats _ _ _ _ [_] from Ats.part hbx 1 1)) rfl ?_
      refine w_y rfl rfl rfl (y_lenS Try.underlying22 rfl rfl) rfl ?_
      refine w_y rfl rfl rfl (y_fieldAddr (o := 2) (i := 2) Try.underlying25 rfl Try.sizeOf23 rfl rfl rfl) rfl ?_
      refine w_y rfl rfl rfl (y_load1 Try.isAgg23 hs.drop.drop.drop rfl rfl (show Ats _ _ _ _ [_] from Ats.part hbx 2 1)) rfl ?_
      refine w_y rfl rfl rfl (y_lenS Try.underlying23 rfl rfl) rfl ?_
      refine w_y rfl rfl rfl (yd_cast (z' := ((mN b : Nat) : Int)) hmi (y_mul rfl rfl rfl rfl (by omega) (by omega))) rfl ?_
      refine w_call (want_yes rfl rfl rfl) Try.call41 rfl rfl rfl rfl (con_true (c41 _ _ (wrongP b).1 (by omega) hq1.top.app.app ((mN b : Nat) : Int) hs) hri) ?_
      rintro _ w67 ⟨rfl, hs68⟩
      refine w_y rfl rfl rfl (y_not rfl rfl) rfl ?_
      refine w_p (y_pickF (v := .bool _) rfl rfl rfl rfl) rfl ?_
      refine w_nil ?_
      refine q_then (hK63 _ _ ?_)
      refine w_condF rfl rfl ?_
      refine w_skip ?_
      refine q_then (hK61 _ _ ?_)
      refine w_seq (fun K70 hK69 => ?_)
      refine w_seq (fun K72 hK71 => ?_)
      refine w_region ?_
      refine w_p (y_assign (v := _) rfl rfl) rfl ?_
      refine w_nil ?_
      refine q_then (hK71 _ _ ?_)
      refine w_block ?_
      refine w_loop [4, 10, 66, 67, 68, 69, 70, 71, 72, 73, 74, 75, 76, 77, 78] [10] (fun k vs w => ∃ (i : Nat), vs = [.int .i64 i] ∧ i ≤ (wrongP b).1.length ∧ k = (wrongP b).1.length - i ∧ St w0 w (OB ++ (FB ++ (B1 ++ ((b3, blk 25 (b.cells p)) :: F))))) ((wrongP b).1.length) ?_ ?_
      ·
       exact ⟨0, rfl, by omega, by omega, hs68⟩
      ·
       intro k vs μ w75 hI K74 hN73
       clear hs
       obtain ⟨i, rfl, hia, rfl, hs⟩ := hI
       refine w_seq (fun K77 hK76 => ?_)
       refine w_seq (fun K79 hK78 => ?_)
       refine w_region ?_
       refine w_p (y_move (v := .int _ _) rfl rfl) rfl ?_
       refine w_p (y_move (v := .slice _ _ _) rfl rfl) rfl ?_
       refine w_p (y_lenS Try.underlying39 rfl rfl) rfl ?_
       refine w_p (y_lss rfl rfl rfl rfl) rfl ?_
       refine w_nil ?_
       refine q_then (hK78 _ _ ?_)
       refine w_cond rfl rfl (fun h80 => ?_) (fun h80 => ?_)
       ·
        try simp only [zA, zB, zC, zD, zE, zF] at h80
        refine w_skip ?_
        refine q_then (hK76 _ _ ?_)
        refine w_seq (fun K82 hK81 => ?_)
        refine w_block ?_
        refine w_seq (fun K84 hK83 => ?_)
        have hi2 : i < (wrongP b).1.length := by omega
        obtain ⟨bx, ox, hbx2, hx0⟩ := sl_ints hq1 hi2
        subst hbx2
        have hx := hx0.top (F := ((b3, blk 25 (b.cells p)) :: F))
        refine w_region ?_
        refine w_p (y_move (v := .slice _ _ _) rfl rfl) rfl ?_
        refine w_p (y_move (v := .slice _ _ _) rfl rfl) rfl ?_
        refine w_p (y_move (v := .int _ _) rfl rfl) rfl ?_
        refine w_p (y_indexS Try.underlying39 Try.sizeOf3 rfl rfl rfl rfl (i := i) rfl hi2) rfl ?_
        refine w_p (y_load1 Try.isAgg3 hs.drop.drop rfl rfl hx) rfl ?_
        refine w_call want_none Try.call42 rfl rfl rfl rfl (con_true (c42 _ _ (nums b) (by omega) hslF.top.app ((wrongP b).1[i]'hi2) hs) (wrongF_has hF (by rw [← hw1]; exact List.getElem_mem _))) ?_
        rintro _ w86 ⟨rfl, hs87⟩
        refine w_p (y_not rfl rfl) rfl ?_
        refine w_nil ?_
        refine q_then (hK83 _ _ ?_)
        refine w_condF rfl rfl ?_
        refine w_skip ?_
        refine q_blk_normal ?_
        refine q_then (hK81 _ _ ?_)
        refine w_region ?_
        refine w_p (y_move (v := .int _ _) rfl rfl) rfl ?_
        refine w_p (y_add rfl rfl rfl rfl (by omega) (by omega)) rfl ?_
        refine w_p (y_assign (v := .int _ _) rfl rfl) rfl ?_
        refine w_nil ?_
        refine q_then (hN73 _ _ (Nx.intro ((wrongP b).1.length - (i + 1)) (by omega) (by repeat (first | exact agree_mix | refine agree_upd rfl ?_ | refine agree_updL rfl ?_ _ | refine agree_mixin rfl ?_)) ?_))
        exact ⟨i + 1, rfl, by omega, rfl, hs87⟩
       ·
        try simp only [zA, zB, zC, zD, zE, zF] at h80
        refine w_exit ?_
        refine q_then_exit ?_
        refine q_then_exit ?_
        refine q_blk_this ?_
        refine q_then (hK69 _ _ ?_)
        refine w_seq (fun K89 hK88 => ?_)
        refine w_region ?_
        refine w_p (y_loadN (vs := [_, _, _]) Try.isAgg25 Try.sizeOf25 hs.drop.drop.drop rfl rfl hbx) rfl ?_
        refine w_p (y_move (v := .slice _ _ _) rfl rfl) rfl ?_
        refine w_call want_none Try.call43 rfl rfl rfl rfl (c43 b p hm.cons.app.app.app hok hnl s a1 c1 (wrongP b).1 hw1 (by omega) hq1.top.app.app hs) ?_
        rintro _ w91 ⟨q1, BB1, rfl, hm1, hs92⟩
        replace hs92 := (show St _ _ (BB1 ++ (OB ++ (FB ++ (B1 ++ (_ :: F))))) from hs92)
        refine w_call want_none Try.call20 rfl rfl rfl rfl (c20 (butB b s) q1 hm1 0 hs92) ?_
        rintro _ w94 ⟨rfl, hs95⟩
        refine w_p (y_move (v := .tuple _) rfl rfl) rfl ?_
        refine w_p (y_extract (v := .agg _) rfl rfl rfl) rfl ?_
        refine w_p (y_extract (v := .int _ _) rfl rfl rfl) rfl ?_
        refine w_alloc (cs := [_, _]) want_none Try.zeroValue31 rfl hs95 (fun b96 w97 hs98 => ?_)
        refine w_store (i := 0) (v := .agg #[.int _ _, .int _ _]) (vs := [_, _]) want_none Try.sizeOf31 rfl rfl rfl rfl rfl (by simp [Value.oneCell']) hs98 rfl (Nat.le_of_ble_eq_true rfl) (fun w99 hs100 => ?_)
        refine w_p (y_assign (v := .int _ _) rfl rfl) rfl ?_
        refine w_nil ?_
        refine q_then (hK88 _ _ ?_)
        refine w_seq (fun K102 hK101 => ?_)
        refine w_region ?_
        refine w_p (y_loadN (vs := [_, _, _]) Try.isAgg25 Try.sizeOf25 hs100.tail.drop.drop.drop.drop rfl rfl hbx) rfl ?_
        refine w_p (y_move (v := .slice _ _ _) rfl rfl) rfl ?_
        refine w_call want_none Try.call43 rfl rfl rfl rfl (c43 b p hm.cons.app.app.app.app.cons hok hnl t aO cO (otherTo b x (nums b).length) hot (by omega) hslO.top.app.cons hs100) ?_
        rintro _ w104 ⟨q2, BB2, rfl, hm2, hs105⟩
        replace hs105 := (show St _ _ (BB2 ++ (_ :: BB1 ++ (OB ++ (FB ++ (B1 ++ (_ :: F)))))) from hs105)
        refine w_call want_none Try.call20 rfl rfl rfl rfl (c20 (butB b t) q2 hm2 0 hs105) ?_
        rintro _ w107 ⟨rfl, hs108⟩
        refine w_p (y_move (v := .tuple _) rfl rfl) rfl ?_
        refine w_p (y_extract (v := .agg _) rfl rfl rfl) rfl ?_
        refine w_p (y_extract (v := .int _ _) rfl rfl rfl) rfl ?_
        refine w_alloc (cs := [_, _]) want_none Try.zeroValue31 rfl hs108 (fun b109 w110 hs111 => ?_)
        refine w_store (i := 0) (v := .agg #[.int _ _, .int _ _]) (vs := [_, _]) want_none Try.sizeOf31 rfl rfl rfl rfl rfl (by simp [Value.oneCell']) hs111 rfl (Nat.le_of_ble_eq_true rfl) (fun w112 hs113 => ?_)
        refine w_p (y_assign (v := .int _ _) rfl rfl) rfl ?_
        refine w_nil ?_
        refine q_then (hK101 _ _ ?_)
        refine w_seq (fun K115 hK114 => ?_)
        refine w_region ?_
        refine w_p (y_move (v := .int _ _) rfl rfl) rfl ?_
        refine w_p (y_eql rfl rfl rfl rfl) rfl ?_
        refine w_p (y_move (v := .bool _) rfl rfl) rfl ?_
        refine w_split (fun h116 => ?_) (fun h116 => ?_)
        ·
         try simp only [zA, zB, zC, zD, zE, zF] at h116
         refine w_y rfl rfl rfl (y_move (v := .int _ _) rfl rfl) rfl ?_
         refine w_y rfl rfl rfl (y_eql rfl rfl rfl rfl) rfl ?_
         refine w_y rfl rfl rfl (y_move (v := .bool _) rfl rfl) rfl ?_
         refine w_split (fun h117 => ?_) (fun h117 => ?_)
         ·
          try simp only [zA, zB, zC, zD, zE, zF] at h117
          refine w_skipop rfl rfl rfl ?_
          refine w_skipop rfl rfl rfl ?_
          refine w_skipop rfl rfl rfl ?_
          refine w_skipop' rfl rfl rfl ?_
          refine w_skipop' rfl rfl rfl ?_
          refine w_skipop' rfl rfl rfl ?_
          refine w_skipop' rfl rfl rfl ?_
          refine w_skipop rfl rfl rfl ?_
          refine w_y rfl rfl rfl (y_pickT (v := _) rfl rfl rfl rfl) rfl ?_
          refine w_p (y_pickT (v := .bool _) rfl rfl rfl rfl) rfl ?_
          refine w_p (y_move (v := .bool _) rfl rfl) rfl ?_
          refine w_call (want_yes rfl rfl rfl) Try.call22 rfl rfl rfl rfl (c22 hs113) ?_
          rintro _ w119 ⟨rfl, hs120⟩
          refine w_p (y_pickT (v := .bool _) rfl rfl rfl rfl) rfl ?_
          refine w_p (y_assign (v := .bool _) rfl rfl) rfl ?_
          refine w_nil ?_
          refine q_then (hK114 _ _ ?_)
          refine w_ret ?_
          refine q_ret (l := [.tmp 4]) (vs := [_]) rfl ⟨⟨rfl, show _ = (.bool _ : Value) from rfl⟩, trivial⟩ ?_
          exact ⟨rfl, hs120.tail.drop.tail.drop.drop.drop.drop.tail⟩
         ·
          try simp only [zA, zB, zC, zD, zE, zF] at h117
          refine w_y rfl rfl rfl (y_move (v := .int _ _) rfl rfl) rfl ?_
          refine w_y rfl rfl rfl (y_eql rfl rfl rfl rfl) rfl ?_
          refine w_y rfl rfl rfl (y_move (v := .bool _) rfl rfl) rfl ?_
          refine w_split (fun h121 => ?_) (fun h121 => ?_)
          ·
           try simp only [zA, zB, zC, zD, zE, zF] at h121
           refine w_y rfl rfl rfl (y_move (v := .slice _ _ _) rfl rfl) rfl ?_
           refine w_y rfl rfl rfl (y_move (v := .slice _ _ _) rfl rfl) rfl ?_
           refine w_call (want_yes rfl rfl rfl) Try.call44 rfl rfl rfl rfl (c44 _ _ (otherTo b x (nums b).length) (wrongP b).1 _ _ (by omega) hslO.top.app.cons.app.cons hq1.top.app.app.app.cons.app.cons hs113) ?_
           rintro _ w123 ⟨rfl, hs124⟩
           refine w_y rfl rfl rfl (y_not rfl rfl) rfl ?_
           refine w_y rfl rfl rfl (y_pickT (v := .bool _) rfl rfl rfl rfl) rfl ?_
           refine w_y rfl rfl rfl (y_pickF (v := .bool _) rfl rfl rfl rfl) rfl ?_
           refine w_p (y_pickT (v := .bool _) rfl rfl rfl rfl) rfl ?_
           refine w_p (y_move (v := .bool _) rfl rfl) rfl ?_
           refine w_split (fun h125 => ?_) (fun h125 => ?_)
           ·
            try simp only [zA, zB, zC, zD, zE, zF] at h125
            refine w_call (want_yes rfl rfl rfl) Try.call22 rfl rfl rfl rfl (c22 hs124) ?_
            rintro _ w127 ⟨rfl, hs128⟩
            refine w_p (y_pickT (v := .bool _) rfl rfl rfl rfl) rfl ?_
            refine w_p (y_assign (v := .bool _) rfl rfl) rfl ?_
            refine w_nil ?_
            refine q_then (hK114 _ _ ?_)
            refine w_ret ?_
            refine q_ret (l := [.tmp 4]) (vs := [_]) rfl ⟨⟨rfl, show _ = (.bool _ : Value) from rfl⟩, trivial⟩ ?_
            exact ⟨rfl, hs128.tail.drop.tail.drop.drop.drop.drop.tail⟩
           ·
            exfalso
            try simp only [zA, zB, zC, zD, zE, zF] at h125
            rcases hg with hg | hg
            · simp_all
            · rw [before_fewer, hot, hw1, hg.2] at h125; simp at h125
          ·
           exfalso
           try simp only [zA, zB, zC, zD, zE, zF] at h121
           rcases hg with hg | hg <;> simp_all
        ·
         exfalso
         try simp only [zA, zB, zC, zD, zE, zF] at h116
         rw [hg1] at h116; simp at h116

end Go.Proofs
