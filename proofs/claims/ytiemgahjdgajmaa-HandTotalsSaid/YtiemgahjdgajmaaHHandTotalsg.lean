/- Own texts of this claim, joined. No conditions. -/
import Derived.Test.YtiemgahjdgajmaaHHandTotalsa
import Derived.Test.YtiemgahjdgajmaaHHandTotalsb
import Derived.Test.YtiemgahjdgajmaaHHandTotalsc
import Derived.Test.YtiemgahjdgajmaaHHandTotalsd
import Derived.Test.YtiemgahjdgajmaaHHandTotalse
import Derived.Test.YtiemgahjdgajmaaHHandTotalsf
/- Walks of this seat, printed by gen.py over the engine: what each function returns, in whatever world. No conditions but those of each contract. -/
set_option linter.unusedVariables false
set_option linter.unusedSimpArgs false
set_option maxRecDepth 20000
namespace Go.Proofs
open Go.Rt Go.Rt.Ha
attribute [local irreducible] WL WC Con Yd At Ats Sl Agree DW
theorem Try_U_fb5 (x0 : Int) (w : World) : (Instr.buildSlice 37 1 [(0, .int .i64 x0)].toArray).run Try.prog w = .ok (.slice (some ⟨w.heap.size, 0, none⟩) 1 1) (w.alloc (Go.Rt.blk 3 [.int .i64 x0])) := by kernel_rfl
theorem ats_ofR {w0 w : World} {L : List (Nat × Obj)} {i b : Nat} {t : TypeId} {cs vs : List Value} (hs : St w0 w L) (hi : L[i]? = some (b, blk t cs)) (h : (cs.drop 0).take vs.length = vs) : Ats w0 L b 0 vs := ats_own hi h
theorem bi2 {a b : Bool} {c d : Int} (h : a = b) (k : c = d) : [Value.bool a, Value.int .i64 c] = [Value.bool b, Value.int .i64 d] := by rw [h, k]
theorem sl_u8 {w0 : World} {F : List (Nat × Obj)} {a : Option Addr} {l : List Int} {i : Nat} (h : Sl w0 F a 1 (l.map fun x => [Value.int .u8 x])) (hi : i < l.length) :
    ∃ b off, a = some ⟨b, off, none⟩ ∧ Ats w0 F b (off + i * 1) [.int .u8 l[i]] := by
  obtain ⟨b, off, ha, _, hat⟩ := h.at (i := i) (row := [.int .u8 l[i]]) (by simp [hi])
  exact ⟨b, off, ha, hat⟩
theorem c94 {w0 w : World} {F : List (Nat × Obj)} (ax : Option Addr) (cx : Nat) (x : List Int) (hxl : x.length ≤ 9223372036854775807) (hxs : Sl w0 F ax 1 (x.map fun n => [Value.int .u8 n])) (hxr : ∀ z ∈ x, 0 ≤ z ∧ z ≤ 255) (n : Nat) (hs : St w0 w F) : Con Try.prog 94 [.slice ax x.length cx, .int .i64 (n : Int)] w fun v w' => v = .int .i64 (turnOf x n) ∧ St w0 w' F := by
  refine con_of_wc (n := 16) Try.func94 rfl rfl (Nat.le_of_ble_eq_true rfl) ?_
  refine w_seq (fun K2 hK1 => ?_)
  refine w_region ?_
  refine w_pure want_none (y_assign (v := _) rfl rfl) rfl ?_
  refine w_nil ?_
  refine q_then (hK1 _ _ ?_)
  refine w_seq (fun K4 hK3 => ?_)
  refine w_seq (fun K6 hK5 => ?_)
  refine w_region ?_
  refine w_pure want_none (y_move (v := .slice _ _ _) rfl rfl) rfl ?_
  refine w_pure want_none (y_lenS Try.underlying54 rfl rfl) rfl ?_
  refine w_pure want_none (y_eql rfl rfl rfl rfl) rfl ?_
  refine w_nil ?_
  refine q_then (hK5 _ _ ?_)
  refine w_cond rfl rfl (fun h7 => ?_) (fun h7 => ?_)
  ·
   try simp only [Bool.not_eq_true', Bool.not_eq_false', decide_eq_true_eq, decide_eq_false_iff_not, Int.not_lt, Int.not_le] at h7
   refine w_seq (fun K9 hK8 => ?_)
   refine w_region ?_
   refine w_pure want_none (y_assign (v := _) rfl rfl) rfl ?_
   refine w_nil ?_
   refine q_then (hK8 _ _ ?_)
   refine w_ret ?_
   refine q_then_ret ?_
   refine q_ret (l := [.tmp 4]) (vs := [_]) rfl ⟨⟨rfl, show _ = (.int _ _ : Value) from rfl⟩, trivial⟩ ?_
   first
     | exact ⟨congrArg (Value.int .i64) (by unfold turnOf; rw [if_pos (by omega)]), hs⟩
     | exact ⟨congrArg (Value.int .i64) (turn_at hx0), hs⟩
  ·
   try simp only [Bool.not_eq_true', Bool.not_eq_false', decide_eq_true_eq, decide_eq_false_iff_not, Int.not_lt, Int.not_le] at h7
   refine w_skip ?_
   refine q_then (hK3 _ _ ?_)
   refine w_seq (fun K11 hK10 => ?_)
   have hx0 : 0 < x.length := by omega
   have hm := Nat.mod_lt n hx0
   obtain ⟨bx, ox, rfl, hx⟩ := sl_u8 hxs hm
   have hr := hxr _ (List.getElem_mem hm)
   refine w_region ?_
   refine w_pure want_none (y_move (v := .slice _ _ _) rfl rfl) rfl ?_
   refine w_pure want_none (y_move (v := .int _ _) rfl rfl) rfl ?_
   refine w_pure want_none (y_move (v := .slice _ _ _) rfl rfl) rfl ?_
   refine w_pure want_none (y_lenS Try.underlying54 rfl rfl) rfl ?_
   refine w_pure want_none (y_rem rfl rfl rfl rfl (by omega) (by omega)) rfl ?_
   refine w_pure want_none (y_indexS Try.underlying54 Try.sizeOf5 rfl rfl rfl rfl (i := n % x.length) (by simp) hm) rfl ?_
   refine w_pure want_none (y_load1 Try.isAgg5 hs rfl rfl hx) rfl ?_
   refine w_pure want_none (y_u8int (by rw [Try.underlying5]; rfl) Try.underlying3 rfl rfl (by omega) (by omega)) rfl ?_
   refine w_pure want_none (y_assign (v := .int _ _) rfl rfl) rfl ?_
   refine w_nil ?_
   refine q_then (hK10 _ _ ?_)
   refine w_ret ?_
   refine q_ret (l := [.tmp 4]) (vs := [_]) rfl ⟨⟨rfl, show _ = (.int _ _ : Value) from rfl⟩, trivial⟩ ?_
   first
     | exact ⟨congrArg (Value.int .i64) (by unfold turnOf; rw [if_pos (by omega)]), hs⟩
     | exact ⟨congrArg (Value.int .i64) (turn_at hx0), hs⟩

theorem c47 {w0 w : World} {F : List (Nat × Obj)} (b n : Nat) (hb : b ≤ 9223372036854775807) (hn : n ≤ 9223372036854775807) (hs : St w0 w F) : Con Try.prog 47 [.int .i64 (b : Int), .int .i64 (n : Int)] w fun v w' => v = .bool (decide ((((b >>> n : Nat) : Int)) % 2 = 1)) ∧ St w0 w' F := by
  refine con_of_wc (n := 16) Try.func47 rfl rfl (Nat.le_of_ble_eq_true rfl) ?_
  refine w_seq (fun K2 hK1 => ?_)
  refine w_region ?_
  refine w_pure want_none (y_assign (v := _) rfl rfl) rfl ?_
  refine w_nil ?_
  refine q_then (hK1 _ _ ?_)
  refine w_seq (fun K4 hK3 => ?_)
  refine w_seq (fun K6 hK5 => ?_)
  refine w_region ?_
  refine w_pure want_none (y_assign (v := _) rfl rfl) rfl ?_
  refine w_nil ?_
  refine q_then (hK5 _ _ ?_)
  refine w_block ?_
  refine w_loop [0, 5, 6, 7, 8, 9, 10, 11, 12] [0, 5] (fun k vs w => ∃ i : Nat, vs = [.int .i64 ((b >>> i : Nat) : Int), .int .i64 i] ∧ i ≤ n ∧ k = n - i ∧ St w0 w F) (n) ?_ ?_
  ·
   exact ⟨0, rfl, by omega, by omega, hs⟩
  ·
   intro k vs μ w9 hI K8 hN7
   obtain ⟨i, rfl, hia, rfl, hs⟩ := hI
   have hsl := shr_le b i
   have hsl0 : (0 : Int) ≤ ((b >>> i : Nat) : Int) := Int.natCast_nonneg _
   refine w_seq (fun K11 hK10 => ?_)
   refine w_seq (fun K13 hK12 => ?_)
   refine w_region ?_
   refine w_pure want_none (y_move (v := .int _ _) rfl rfl) rfl ?_
   refine w_pure want_none (y_move (v := .int _ _) rfl rfl) rfl ?_
   refine w_pure want_none (y_lss rfl rfl rfl rfl) rfl ?_
   refine w_nil ?_
   refine q_then (hK12 _ _ ?_)
   refine w_cond rfl rfl (fun h14 => ?_) (fun h14 => ?_)
   ·
    try simp only [Bool.not_eq_true', Bool.not_eq_false', decide_eq_true_eq, decide_eq_false_iff_not, Int.not_lt, Int.not_le] at h14
    refine w_skip ?_
    refine q_then (hK10 _ _ ?_)
    refine w_seq (fun K16 hK15 => ?_)
    refine w_block ?_
    refine w_region ?_
    refine w_pure want_none (y_move (v := .int _ _) rfl rfl) rfl ?_
    refine w_pure want_none (y_quo rfl rfl rfl rfl (by omega) (by omega) (by omega)) rfl ?_
    refine w_pure want_none (y_assign (v := .int _ _) rfl rfl) rfl ?_
    refine w_nil ?_
    refine q_blk_normal ?_
    refine q_then (hK15 _ _ ?_)
    refine w_region ?_
    refine w_pure want_none (y_move (v := .int _ _) rfl rfl) rfl ?_
    refine w_pure want_none (y_add rfl rfl rfl rfl (by omega) (by omega)) rfl ?_
    refine w_pure want_none (y_assign (v := .int _ _) rfl rfl) rfl ?_
    refine w_nil ?_
    refine q_then (hN7 _ _ (Nx.intro (n - (i + 1)) (by omega) (by repeat (first | exact agree_mix | refine agree_upd rfl ?_ | refine agree_updL rfl ?_ _ | refine agree_mixin rfl ?_)) ?_))
    exact ⟨i + 1, by rw [← shr_half]; rfl, by omega, rfl, hs⟩
   ·
    try simp only [Bool.not_eq_true', Bool.not_eq_false', decide_eq_true_eq, decide_eq_false_iff_not, Int.not_lt, Int.not_le] at h14
    refine w_exit ?_
    refine q_then_exit ?_
    refine q_then_exit ?_
    refine q_blk_this ?_
    refine q_then (hK3 _ _ ?_)
    refine w_seq (fun K18 hK17 => ?_)
    refine w_region ?_
    refine w_pure want_none (y_move (v := .int _ _) rfl rfl) rfl ?_
    refine w_pure want_none (y_rem rfl rfl rfl rfl (by omega) (by omega)) rfl ?_
    refine w_pure want_none (y_eql rfl rfl rfl rfl) rfl ?_
    refine w_pure want_none (y_assign (v := .bool _) rfl rfl) rfl ?_
    refine w_nil ?_
    refine q_then (hK17 _ _ ?_)
    refine w_ret ?_
    refine q_ret (l := [.tmp 4]) (vs := [_]) rfl ⟨⟨rfl, show _ = (.bool _ : Value) from rfl⟩, trivial⟩ ?_
    have hin : i = n := by omega
    subst hin
    exact ⟨rfl, hs⟩

theorem c50 {w0 w : World} {F : List (Nat × Obj)} (aa ab : Option Addr) (a b : List Int) (ca cb : Nat) (hla : a.length ≤ 9223372036854775807) (ha : Sl w0 F aa 1 (a.map fun x => [Value.int .i64 x])) (hb : Sl w0 F ab 1 (b.map fun x => [Value.int .i64 x])) (hs : St w0 w F) : Con Try.prog 50 [.slice aa a.length ca, .slice ab b.length cb] w fun v w' => v = .bool (if a.length = b.length then less a b else decide (a.length < b.length)) ∧ St w0 w' F := by
  refine con_of_wc (n := 18) Try.func50 rfl rfl (Nat.le_of_ble_eq_true rfl) ?_
  refine w_seq (fun K2 hK1 => ?_)
  refine w_region ?_
  refine w_pure want_none (y_assign (v := _) rfl rfl) rfl ?_
  refine w_nil ?_
  refine q_then (hK1 _ _ ?_)
  refine w_seq (fun K4 hK3 => ?_)
  refine w_seq (fun K6 hK5 => ?_)
  refine w_region ?_
  refine w_pure want_none (y_move (v := .slice _ _ _) rfl rfl) rfl ?_
  refine w_pure want_none (y_lenS Try.underlying37 rfl rfl) rfl ?_
  refine w_pure want_none (y_move (v := .slice _ _ _) rfl rfl) rfl ?_
  refine w_pure want_none (y_lenS Try.underlying37 rfl rfl) rfl ?_
  refine w_pure want_none (y_neq rfl rfl rfl rfl) rfl ?_
  refine w_nil ?_
  refine q_then (hK5 _ _ ?_)
  refine w_cond rfl rfl (fun h7 => ?_) (fun h7 => ?_)
  ·
   try simp only [Bool.not_eq_true', Bool.not_eq_false', decide_eq_true_eq, decide_eq_false_iff_not, Int.not_lt, Int.not_le] at h7
   refine w_seq (fun K9 hK8 => ?_)
   refine w_region ?_
   refine w_pure want_none (y_move (v := .slice _ _ _) rfl rfl) rfl ?_
   refine w_pure want_none (y_lenS Try.underlying37 rfl rfl) rfl ?_
   refine w_pure want_none (y_move (v := .slice _ _ _) rfl rfl) rfl ?_
   refine w_pure want_none (y_lenS Try.underlying37 rfl rfl) rfl ?_
   refine w_pure want_none (y_lss rfl rfl rfl rfl) rfl ?_
   refine w_pure want_none (y_assign (v := .bool _) rfl rfl) rfl ?_
   refine w_nil ?_
   refine q_then (hK8 _ _ ?_)
   refine w_ret ?_
   refine q_then_ret ?_
   refine q_ret (l := [.tmp 4]) (vs := [_]) rfl ⟨⟨rfl, show _ = (.bool _ : Value) from rfl⟩, trivial⟩ ?_
   first
     | exact ⟨congrArg Value.bool (by rw [if_neg (by omega)]; rw [Bool.eq_iff_iff]; simp), hs⟩
     | exact ⟨congrArg Value.bool (by rw [if_pos (by omega)]), hs⟩
  ·
   try simp only [Bool.not_eq_true', Bool.not_eq_false', decide_eq_true_eq, decide_eq_false_iff_not, Int.not_lt, Int.not_le] at h7
   refine w_skip ?_
   refine q_then (hK3 _ _ ?_)
   refine w_seq (fun K11 hK10 => ?_)
   refine w_region ?_
   refine w_pure want_none (y_move (v := .slice _ _ _) rfl rfl) rfl ?_
   refine w_pure want_none (y_move (v := .slice _ _ _) rfl rfl) rfl ?_
   refine w_call want_none Try.call77 rfl rfl rfl rfl (c77 _ _ _ _ _ _ (by omega) (by assumption) (by assumption) hs) ?_
   rintro _ w13 ⟨rfl, hs14⟩
   refine w_pure want_none (y_assign (v := .bool _) rfl rfl) rfl ?_
   refine w_nil ?_
   refine q_then (hK10 _ _ ?_)
   refine w_ret ?_
   refine q_ret (l := [.tmp 4]) (vs := [_]) rfl ⟨⟨rfl, show _ = (.bool _ : Value) from rfl⟩, trivial⟩ ?_
   first
     | exact ⟨congrArg Value.bool (by rw [if_neg (by omega)]; rw [Bool.eq_iff_iff]; simp), hs14⟩
     | exact ⟨congrArg Value.bool (by rw [if_pos (by omega)]), hs14⟩

theorem bit_con {w0 w : World} {F : List (Nat × Obj)} (z : Int) (n : Nat) (hz : 0 ≤ z) (hz2 : z ≤ 9223372036854775807) (hn : n ≤ 9223372036854775807) (hs : St w0 w F) : Con Try.prog 47 [.int .i64 z, .int .i64 (n : Int)] w fun v w' => v = .bool (decide (bit z.toNat n = 1)) ∧ St w0 w' F := by
  have h := c47 z.toNat n (by omega) hn hs
  rw [Int.toNat_of_nonneg hz, bit_dec] at h
  exact h
theorem c43 {w0 w : World} {F : List (Nat × Obj)} (al : Option Addr) (cl : Nat) (l : List Int) (hll : l.length ≤ 9223372036854775807) (hl : Sl w0 F al 1 (l.map fun x => [Value.int .i64 x])) (z : Int) (hs : St w0 w F) :
  Con Try.prog 43 [.slice al l.length cl, .int .i64 z] w fun v w' => v = .bool (hasI l z) ∧ St w0 w' F := by
  refine con_of_wc (n := 23) Try.func43 rfl rfl (Nat.le_of_ble_eq_true rfl) ?_
  refine w_seq (fun K2 hK1 => ?_)
  refine w_region ?_
  refine w_pure want_none (y_assign (v := _) rfl rfl) rfl ?_
  refine w_nil ?_
  refine q_then (hK1 _ _ ?_)
  refine w_seq (fun K4 hK3 => ?_)
  refine w_region ?_
  refine w_pure want_none (y_assign (v := _) rfl rfl) rfl ?_
  refine w_nil ?_
  refine q_then (hK3 _ _ ?_)
  refine w_seq (fun K6 hK5 => ?_)
  refine w_seq (fun K8 hK7 => ?_)
  refine w_region ?_
  refine w_pure want_none (y_assign (v := _) rfl rfl) rfl ?_
  refine w_nil ?_
  refine q_then (hK7 _ _ ?_)
  refine w_block ?_
  refine w_loop [5, 6, 7, 8, 9, 10, 11, 12, 13, 14, 15, 16, 17, 18, 19, 20, 21] [5, 6] (fun k vs w => ∃ i : Nat, vs = [.bool (hasI (l.take i) z), .int .i64 i] ∧ i ≤ l.length ∧ k = l.length - i ∧ St w0 w F) (l.length) ?_ ?_
  ·
   exact ⟨0, rfl, by omega, by omega, hs⟩
  ·
   intro k vs μ w11 hI K10 hN9
   obtain ⟨i, rfl, hia, rfl, hs⟩ := hI
   generalize hb : hasI (l.take i) z = b
   refine w_seq (fun K13 hK12 => ?_)
   refine w_seq (fun K15 hK14 => ?_)
   refine w_region ?_
   refine w_pure want_none (y_move (v := .int _ _) rfl rfl) rfl ?_
   refine w_pure want_none (y_move (v := .slice _ _ _) rfl rfl) rfl ?_
   refine w_pure want_none (y_lenS Try.underlying37 rfl rfl) rfl ?_
   refine w_pure want_none (y_lss rfl rfl rfl rfl) rfl ?_
   refine w_nil ?_
   refine q_then (hK14 _ _ ?_)
   refine w_cond rfl rfl (fun h16 => ?_) (fun h16 => ?_)
   ·
    try simp only [Bool.not_eq_true', Bool.not_eq_false', decide_eq_true_eq, decide_eq_false_iff_not, Int.not_lt, Int.not_le] at h16
    refine w_skip ?_
    refine q_then (hK12 _ _ ?_)
    refine w_seq (fun K18 hK17 => ?_)
    refine w_block ?_
    have hi2 : i < l.length := by omega
    obtain ⟨bx, ox, hbx, hx⟩ := sl_ints hl hi2
    subst hbx
    refine w_region ?_
    refine w_pure want_none (y_move (v := .bool _) rfl rfl) rfl ?_
    refine w_pure want_none (y_move (v := .bool _) rfl rfl) rfl ?_
    refine w_split (fun h19 => ?_) (fun h19 => ?_)
    ·
     subst h19
     refine w_skipop rfl rfl rfl ?_
     refine w_skipop rfl rfl rfl ?_
     refine w_skipop rfl rfl rfl ?_
     refine w_skipop rfl rfl rfl ?_
     refine w_skipop rfl rfl rfl ?_
     refine w_skipop rfl rfl rfl ?_
     refine w_pure want_none (y_pickT (v := _) rfl rfl rfl rfl) rfl ?_
     refine w_pure want_none (y_assign (v := .bool _) rfl rfl) rfl ?_
     refine w_nil ?_
     refine q_blk_normal ?_
     refine q_then (hK17 _ _ ?_)
     refine w_region ?_
     refine w_pure want_none (y_move (v := .int _ _) rfl rfl) rfl ?_
     refine w_pure want_none (y_add rfl rfl rfl rfl (by omega) (by omega)) rfl ?_
     refine w_pure want_none (y_assign (v := .int _ _) rfl rfl) rfl ?_
     refine w_nil ?_
     refine q_then (hN9 _ _ (Nx.intro (l.length - (i + 1)) (by omega) (by repeat (first | exact agree_mix | refine agree_upd rfl ?_ | refine agree_updL rfl ?_ _ | refine agree_mixin rfl ?_)) ?_))
     first
       | exact ⟨i + 1, bi2 (by rw [hasI_succ hi2, hb]; simp) rfl, by omega, rfl, hs⟩
       | exact ⟨i + 1, bi2 (by rw [hasI_succ hi2, hb]; rfl) rfl, by omega, rfl, hs⟩
    ·
     subst h19
     refine w_pure (want_yes rfl rfl rfl) (y_move (v := .slice _ _ _) rfl rfl) rfl ?_
     refine w_pure (want_yes rfl rfl rfl) (y_move (v := .int _ _) rfl rfl) rfl ?_
     refine w_pure (want_yes rfl rfl rfl) (y_indexS Try.underlying37 Try.sizeOf3 rfl rfl rfl rfl (i := _) rfl (by omega)) rfl ?_
     refine w_pure (want_yes rfl rfl rfl) (y_load1 Try.isAgg3 hs rfl rfl hx) rfl ?_
     refine w_pure (want_yes rfl rfl rfl) (y_move (v := .int _ _) rfl rfl) rfl ?_
     refine w_pure (want_yes rfl rfl rfl) (y_eql rfl rfl rfl rfl) rfl ?_
     refine w_pure want_none (y_pickF (v := .bool _) rfl rfl rfl rfl) rfl ?_
     refine w_pure want_none (y_assign (v := .bool _) rfl rfl) rfl ?_
     refine w_nil ?_
     refine q_blk_normal ?_
     refine q_then (hK17 _ _ ?_)
     refine w_region ?_
     refine w_pure want_none (y_move (v := .int _ _) rfl rfl) rfl ?_
     refine w_pure want_none (y_add rfl rfl rfl rfl (by omega) (by omega)) rfl ?_
     refine w_pure want_none (y_assign (v := .int _ _) rfl rfl) rfl ?_
     refine w_nil ?_
     refine q_then (hN9 _ _ (Nx.intro (l.length - (i + 1)) (by omega) (by repeat (first | exact agree_mix | refine agree_upd rfl ?_ | refine agree_updL rfl ?_ _ | refine agree_mixin rfl ?_)) ?_))
     first
       | exact ⟨i + 1, bi2 (by rw [hasI_succ hi2, hb]; simp) rfl, by omega, rfl, hs⟩
       | exact ⟨i + 1, bi2 (by rw [hasI_succ hi2, hb]; rfl) rfl, by omega, rfl, hs⟩
   ·
    try simp only [Bool.not_eq_true', Bool.not_eq_false', decide_eq_true_eq, decide_eq_false_iff_not, Int.not_lt, Int.not_le] at h16
    refine w_exit ?_
    refine q_then_exit ?_
    refine q_then_exit ?_
    refine q_blk_this ?_
    refine q_then (hK5 _ _ ?_)
    refine w_seq (fun K21 hK20 => ?_)
    refine w_region ?_
    refine w_pure want_none (y_move (v := .bool _) rfl rfl) rfl ?_
    refine w_pure want_none (y_assign (v := .bool _) rfl rfl) rfl ?_
    refine w_nil ?_
    refine q_then (hK20 _ _ ?_)
    refine w_ret ?_
    refine q_ret (l := [.tmp 4]) (vs := [_]) rfl ⟨⟨rfl, show _ = (.bool _ : Value) from rfl⟩, trivial⟩ ?_
    exact ⟨congrArg Value.bool (by have hil : i = l.length := (by omega); subst hil; rw [List.take_length] at hb; exact hb.symm), hs⟩

theorem c93 {w0 w : World} {F : List (Nat × Obj)} (c : Count) (hc : 0 ≤ c.bits ∧ c.bits ≤ 63) (ah : Option Addr) (ch : Nat) (h : List Int) (hh6 : h.length ≤ 6) (hh : ∀ z ∈ h, 0 ≤ z ∧ z ≤ 12) (hsl : Sl w0 F ah 1 (h.map fun x => [Value.int .i64 x])) (hs : St w0 w F) :
  Con Try.prog 93 [.agg c.cells.toArray, .slice ah h.length ch] w fun v w' => v = .int .i64 (counted c.bits.toNat 0 h) ∧ St w0 w' F := by
  refine con_of_wc (n := 24) Try.func93 rfl rfl (Nat.le_of_ble_eq_true rfl) ?_
  refine w_seq (fun K2 hK1 => ?_)
  refine w_region ?_
  refine w_box (v := .agg #[.int _ _, .int _ _]) (cs := [_, _]) want_none rfl rfl rfl hs (fun b3 w4 hs5 => ?_)
  refine w_pure want_none (y_assign (v := _) rfl rfl) rfl ?_
  refine w_nil ?_
  refine q_then (hK1 _ _ ?_)
  refine w_seq (fun K7 hK6 => ?_)
  refine w_region ?_
  refine w_pure want_none (y_assign (v := _) rfl rfl) rfl ?_
  refine w_nil ?_
  refine q_then (hK6 _ _ ?_)
  refine w_seq (fun K9 hK8 => ?_)
  refine w_seq (fun K11 hK10 => ?_)
  refine w_region ?_
  refine w_pure want_none (y_assign (v := _) rfl rfl) rfl ?_
  refine w_nil ?_
  refine q_then (hK10 _ _ ?_)
  refine w_block ?_
  refine w_loop [5, 6, 7, 8, 9, 10, 11, 12, 13, 14, 15, 16, 17, 18, 19, 20, 21, 22] [5, 6] (fun k vs w => ∃ i : Nat, vs = [.int .i64 (counted c.bits.toNat 0 (h.take i)), .int .i64 i] ∧ i ≤ h.length ∧ k = h.length - i ∧ St w0 w ((b3, blk 51 c.cells) :: F)) (h.length) ?_ ?_
  ·
   exact ⟨0, rfl, by omega, by omega, hs5⟩
  ·
   intro k vs μ w14 hI K13 hN12
   obtain ⟨i, rfl, hia, rfl, hs⟩ := hI
   have hcb := counted_bound (bits := c.bits.toNat) hh i hh6
   refine w_seq (fun K16 hK15 => ?_)
   refine w_seq (fun K18 hK17 => ?_)
   refine w_region ?_
   refine w_pure want_none (y_move (v := .int _ _) rfl rfl) rfl ?_
   refine w_pure want_none (y_move (v := .slice _ _ _) rfl rfl) rfl ?_
   refine w_pure want_none (y_lenS Try.underlying37 rfl rfl) rfl ?_
   refine w_pure want_none (y_lss rfl rfl rfl rfl) rfl ?_
   refine w_nil ?_
   refine q_then (hK17 _ _ ?_)
   refine w_cond rfl rfl (fun h19 => ?_) (fun h19 => ?_)
   ·
    try simp only [Bool.not_eq_true', Bool.not_eq_false', decide_eq_true_eq, decide_eq_false_iff_not, Int.not_lt, Int.not_le] at h19
    refine w_skip ?_
    refine q_then (hK15 _ _ ?_)
    refine w_seq (fun K21 hK20 => ?_)
    refine w_block ?_
    refine w_seq (fun K23 hK22 => ?_)
    have hi2 : i < h.length := by omega
    obtain ⟨bx, ox, hbx, hx⟩ := sl_ints hsl hi2
    subst hbx
    have hg := hh _ (List.getElem_mem hi2)
    refine w_region ?_
    refine w_pure want_none (y_fieldAddr (o := 0) (i := 0) Try.underlying51 rfl Try.sizeOf3 rfl rfl rfl) rfl ?_
    refine w_pure want_none (y_load1 Try.isAgg3 hs rfl rfl (ats_own (i := 0) (vs := [_]) rfl rfl)) rfl ?_
    refine w_pure want_none (y_move (v := .int _ _) rfl rfl) rfl ?_
    refine w_call want_none Try.call47 rfl rfl rfl rfl (bit_con c.bits i (by omega) (by omega) (by omega) hs) ?_
    rintro _ w25 ⟨rfl, hs26⟩
    refine w_nil ?_
    refine q_then (hK22 _ _ ?_)
    refine w_cond rfl rfl (fun h27 => ?_) (fun h27 => ?_)
    ·
     try simp only [Bool.not_eq_true', Bool.not_eq_false', decide_eq_true_eq, decide_eq_false_iff_not, Int.not_lt, Int.not_le] at h27
     refine w_region ?_
     refine w_pure want_none (y_move (v := .int _ _) rfl rfl) rfl ?_
     refine w_pure want_none (y_move (v := .slice _ _ _) rfl rfl) rfl ?_
     refine w_pure want_none (y_move (v := .int _ _) rfl rfl) rfl ?_
     refine w_pure want_none (y_indexS Try.underlying37 Try.sizeOf3 rfl rfl rfl rfl (i := _) rfl (by omega)) rfl ?_
     refine w_pure want_none (y_load1 Try.isAgg3 hs26.tail rfl rfl hx) rfl ?_
     refine w_pure want_none (y_add rfl rfl rfl rfl (by omega) (by omega)) rfl ?_
     refine w_pure want_none (y_assign (v := .int _ _) rfl rfl) rfl ?_
     refine w_nil ?_
     refine q_blk_normal ?_
     refine q_then (hK20 _ _ ?_)
     refine w_region ?_
     refine w_pure want_none (y_move (v := .int _ _) rfl rfl) rfl ?_
     refine w_pure want_none (y_add rfl rfl rfl rfl (by omega) (by omega)) rfl ?_
     refine w_pure want_none (y_assign (v := .int _ _) rfl rfl) rfl ?_
     refine w_nil ?_
     refine q_then (hN12 _ _ (Nx.intro (h.length - (i + 1)) (by omega) (by repeat (first | exact agree_mix | refine agree_upd rfl ?_ | refine agree_updL rfl ?_ _ | refine agree_mixin rfl ?_)) ?_))
     first
       | exact ⟨i + 1, iv2 (counted_yes hi2 (by assumption)).symm rfl, by omega, rfl, hs26⟩
       | exact ⟨i + 1, iv2 (counted_no hi2 (by assumption)).symm rfl, by omega, rfl, hs26⟩
    ·
     try simp only [Bool.not_eq_true', Bool.not_eq_false', decide_eq_true_eq, decide_eq_false_iff_not, Int.not_lt, Int.not_le] at h27
     refine w_skip ?_
     refine q_blk_normal ?_
     refine q_then (hK20 _ _ ?_)
     refine w_region ?_
     refine w_pure want_none (y_move (v := .int _ _) rfl rfl) rfl ?_
     refine w_pure want_none (y_add rfl rfl rfl rfl (by omega) (by omega)) rfl ?_
     refine w_pure want_none (y_assign (v := .int _ _) rfl rfl) rfl ?_
     refine w_nil ?_
     refine q_then (hN12 _ _ (Nx.intro (h.length - (i + 1)) (by omega) (by repeat (first | exact agree_mix | refine agree_upd rfl ?_ | refine agree_updL rfl ?_ _ | refine agree_mixin rfl ?_)) ?_))
     first
       | exact ⟨i + 1, iv2 (counted_yes hi2 (by assumption)).symm rfl, by omega, rfl, hs26⟩
       | exact ⟨i + 1, iv2 (counted_no hi2 (by assumption)).symm rfl, by omega, rfl, hs26⟩
   ·
    try simp only [Bool.not_eq_true', Bool.not_eq_false', decide_eq_true_eq, decide_eq_false_iff_not, Int.not_lt, Int.not_le] at h19
    refine w_exit ?_
    refine q_then_exit ?_
    refine q_then_exit ?_
    refine q_blk_this ?_
    refine q_then (hK8 _ _ ?_)
    refine w_seq (fun K29 hK28 => ?_)
    refine w_region ?_
    refine w_pure want_none (y_move (v := .int _ _) rfl rfl) rfl ?_
    refine w_pure want_none (y_assign (v := .int _ _) rfl rfl) rfl ?_
    refine w_nil ?_
    refine q_then (hK28 _ _ ?_)
    refine w_ret ?_
    refine q_ret (l := [.tmp 4]) (vs := [_]) rfl ⟨⟨rfl, show _ = (.int _ _ : Value) from rfl⟩, trivial⟩ ?_
    have hil : i = h.length := by omega
    subst hil
    exact ⟨congrArg (Value.int .i64) (by rw [List.take_length]), hs.tail⟩

theorem c41 {w0 w : World} {F : List (Nat × Obj)} (l : Lot) (p : At3) (hm : LIn w0 F l p) (h s : Int) (hs : St w0 w F) :
  Con Try.prog 41 [.agg (l.cells p).toArray, .int .i64 h, .int .i64 s] w fun v w' => v = .int .i64 (ofG l.grades 0 h s) ∧ St w0 w' F := by
  refine con_of_wc (n := 34) Try.func41 rfl rfl (Nat.le_of_ble_eq_true rfl) ?_
  obtain ⟨ag, cg, ab, cb, ac, cc⟩ := p
  have hlg := hm.lg
  refine w_seq (fun K2 hK1 => ?_)
  refine w_region ?_
  refine w_box (v := .agg #[.slice _ _ _, .slice _ _ _, .slice _ _ _]) (cs := [_, _, _]) want_none rfl rfl rfl hs (fun b3 w4 hs5 => ?_)
  refine w_pure want_none (y_assign (v := _) rfl rfl) rfl ?_
  refine w_nil ?_
  refine q_then (hK1 _ _ ?_)
  refine w_seq (fun K7 hK6 => ?_)
  refine w_seq (fun K9 hK8 => ?_)
  refine w_region ?_
  refine w_pure want_none (y_assign (v := _) rfl rfl) rfl ?_
  refine w_nil ?_
  refine q_then (hK8 _ _ ?_)
  refine w_block ?_
  refine w_loop [6, 7, 8, 9, 10, 11, 12, 13, 14, 15, 16, 17, 18, 19, 20, 21, 22, 23, 24, 25, 26, 27, 28, 29, 30, 31, 32, 33] [7] (fun k vs w => ∃ i : Nat, vs = [.int .i64 i] ∧ i ≤ l.grades.length ∧ k = l.grades.length - i ∧ ofG l.grades 0 h s = ofG (l.grades.drop i) i h s ∧ St w0 w ((b3, blk 26 (l.cells ⟨ag, cg, ab, cb, ac, cc⟩)) :: F)) (l.grades.length) ?_ ?_
  ·
   exact ⟨0, rfl, by omega, by omega, rfl, hs5⟩
  ·
   intro k vs μ w12 hI K11 hN10
   obtain ⟨i, rfl, hia, rfl, hinv, hs⟩ := hI
   refine w_seq (fun K14 hK13 => ?_)
   refine w_seq (fun K16 hK15 => ?_)
   refine w_region ?_
   refine w_pure want_none (y_move (v := .int _ _) rfl rfl) rfl ?_
   refine w_pure want_none (y_fieldAddr (o := 0) (i := 0) Try.underlying26 rfl Try.sizeOf22 rfl rfl rfl) rfl ?_
   refine w_pure want_none (y_load1 Try.isAgg22 hs rfl rfl (ats_own (i := 0) (vs := [_]) rfl rfl)) rfl ?_
   refine w_pure want_none (y_lenS Try.underlying22 rfl rfl) rfl ?_
   refine w_pure want_none (y_lss rfl rfl rfl rfl) rfl ?_
   refine w_nil ?_
   refine q_then (hK15 _ _ ?_)
   refine w_cond rfl rfl (fun h17 => ?_) (fun h17 => ?_)
   ·
    try simp only [Bool.not_eq_true', Bool.not_eq_false', decide_eq_true_eq, decide_eq_false_iff_not, Int.not_lt, Int.not_le] at h17
    refine w_skip ?_
    refine q_then (hK13 _ _ ?_)
    refine w_seq (fun K19 hK18 => ?_)
    refine w_block ?_
    refine w_seq (fun K21 hK20 => ?_)
    have hi2 : i < l.grades.length := by omega
    obtain ⟨bx, ox, hbx, hx⟩ := sl_grows hm.g hi2
    subst hbx
    refine w_region ?_
    refine w_pure want_none (y_move (v := .int _ _) rfl rfl) rfl ?_
    refine w_pure want_none (y_fieldAddr (o := 0) (i := 0) Try.underlying26 rfl Try.sizeOf22 rfl rfl rfl) rfl ?_
    refine w_pure want_none (y_load1 Try.isAgg22 hs rfl rfl (ats_own (i := 0) (vs := [_]) rfl rfl)) rfl ?_
    refine w_pure want_none (y_move (v := .int _ _) rfl rfl) rfl ?_
    refine w_pure want_none (y_indexS Try.underlying22 Try.sizeOf79 rfl rfl rfl rfl (i := _) rfl (by omega)) rfl ?_
    refine w_pure want_none (y_fieldAddr (o := 1) (i := 1) Try.underlying79 rfl Try.sizeOf3 rfl rfl rfl) rfl ?_
    refine w_pure want_none (y_load1 Try.isAgg3 hs.tail rfl rfl (show Ats _ _ _ _ [_] from Ats.part hx 1 1)) rfl ?_
    refine w_pure want_none (y_geq rfl rfl rfl rfl) rfl ?_
    refine w_pure want_none (y_move (v := .bool _) rfl rfl) rfl ?_
    refine w_split (fun h22 => ?_) (fun h22 => ?_)
    ·
     try simp only [Bool.not_eq_true', Bool.not_eq_false', decide_eq_true_eq, decide_eq_false_iff_not, Int.not_lt, Int.not_le] at h22
     refine w_pure (want_yes rfl rfl rfl) (y_move (v := .int _ _) rfl rfl) rfl ?_
     refine w_pure (want_yes rfl rfl rfl) (y_fieldAddr (o := 0) (i := 0) Try.underlying26 rfl Try.sizeOf22 rfl rfl rfl) rfl ?_
     refine w_pure (want_yes rfl rfl rfl) (y_load1 Try.isAgg22 hs rfl rfl (ats_own (i := 0) (vs := [_]) rfl rfl)) rfl ?_
     refine w_pure (want_yes rfl rfl rfl) (y_move (v := .int _ _) rfl rfl) rfl ?_
     refine w_pure (want_yes rfl rfl rfl) (y_indexS Try.underlying22 Try.sizeOf79 rfl rfl rfl rfl (i := _) rfl (by omega)) rfl ?_
     refine w_pure (want_yes rfl rfl rfl) (y_fieldAddr (o := 2) (i := 2) Try.underlying79 rfl Try.sizeOf3 rfl rfl rfl) rfl ?_
     refine w_pure (want_yes rfl rfl rfl) (y_load1 Try.isAgg3 hs.tail rfl rfl (show Ats _ _ _ _ [_] from Ats.part hx 2 1)) rfl ?_
     refine w_pure (want_yes rfl rfl rfl) (y_leq rfl rfl rfl rfl) rfl ?_
     refine w_pure want_none (y_pickT (v := .bool _) rfl rfl rfl rfl) rfl ?_
     refine w_nil ?_
     refine q_then (hK20 _ _ ?_)
     refine w_cond rfl rfl (fun h23 => ?_) (fun h23 => ?_)
     ·
      try simp only [Bool.not_eq_true', Bool.not_eq_false', decide_eq_true_eq, decide_eq_false_iff_not, Int.not_lt, Int.not_le] at h23
      refine w_seq (fun K25 hK24 => ?_)
      refine w_region ?_
      refine w_pure want_none (y_move (v := .int _ _) rfl rfl) rfl ?_
      refine w_pure want_none (y_assign (v := .int _ _) rfl rfl) rfl ?_
      refine w_nil ?_
      refine q_then (hK24 _ _ ?_)
      refine w_ret ?_
      refine q_blk_ret ?_
      refine q_then_ret ?_
      refine q_then_ret ?_
      refine q_blk_ret ?_
      refine q_then_ret ?_
      refine q_ret (l := [.tmp 6]) (vs := [_]) rfl ⟨⟨rfl, show _ = (.int _ _ : Value) from rfl⟩, trivial⟩ ?_
      first
        | exact ⟨congrArg (Value.int .i64) (hinv.trans (of_here hi2 (by omega))).symm, hs.tail⟩
        | exact ⟨congrArg (Value.int .i64) (hinv.trans (of_end (by omega))).symm, hs.tail⟩
     ·
      try simp only [Bool.not_eq_true', Bool.not_eq_false', decide_eq_true_eq, decide_eq_false_iff_not, Int.not_lt, Int.not_le] at h23
      refine w_skip ?_
      refine q_blk_normal ?_
      refine q_then (hK18 _ _ ?_)
      refine w_region ?_
      refine w_pure want_none (y_move (v := .int _ _) rfl rfl) rfl ?_
      refine w_pure want_none (y_add rfl rfl rfl rfl (by omega) (by omega)) rfl ?_
      refine w_pure want_none (y_assign (v := .int _ _) rfl rfl) rfl ?_
      refine w_nil ?_
      refine q_then (hN10 _ _ (Nx.intro (l.grades.length - (i + 1)) (by omega) (by repeat (first | exact agree_mix | refine agree_upd rfl ?_ | refine agree_updL rfl ?_ _ | refine agree_mixin rfl ?_)) ?_))
      exact ⟨i + 1, rfl, by omega, rfl, hinv.trans (of_step hi2 (by omega)), hs⟩
    ·
     try simp only [Bool.not_eq_true', Bool.not_eq_false', decide_eq_true_eq, decide_eq_false_iff_not, Int.not_lt, Int.not_le] at h22
     refine w_skipop rfl rfl rfl ?_
     refine w_skipop rfl rfl rfl ?_
     refine w_skipop rfl rfl rfl ?_
     refine w_skipop rfl rfl rfl ?_
     refine w_skipop rfl rfl rfl ?_
     refine w_skipop rfl rfl rfl ?_
     refine w_skipop rfl rfl rfl ?_
     refine w_skipop rfl rfl rfl ?_
     refine w_pure want_none (y_pickF (v := _) rfl rfl rfl rfl) rfl ?_
     refine w_nil ?_
     refine q_then (hK20 _ _ ?_)
     refine w_condF rfl rfl ?_
     refine w_skip ?_
     refine q_blk_normal ?_
     refine q_then (hK18 _ _ ?_)
     refine w_region ?_
     refine w_pure want_none (y_move (v := .int _ _) rfl rfl) rfl ?_
     refine w_pure want_none (y_add rfl rfl rfl rfl (by omega) (by omega)) rfl ?_
     refine w_pure want_none (y_assign (v := .int _ _) rfl rfl) rfl ?_
     refine w_nil ?_
     refine q_then (hN10 _ _ (Nx.intro (l.grades.length - (i + 1)) (by omega) (by repeat (first | exact agree_mix | refine agree_upd rfl ?_ | refine agree_updL rfl ?_ _ | refine agree_mixin rfl ?_)) ?_))
     exact ⟨i + 1, rfl, by omega, rfl, hinv.trans (of_step hi2 (by omega)), hs⟩
   ·
    try simp only [Bool.not_eq_true', Bool.not_eq_false', decide_eq_true_eq, decide_eq_false_iff_not, Int.not_lt, Int.not_le] at h17
    refine w_exit ?_
    refine q_then_exit ?_
    refine q_then_exit ?_
    refine q_blk_this ?_
    refine q_then (hK6 _ _ ?_)
    refine w_seq (fun K27 hK26 => ?_)
    refine w_region ?_
    refine w_pure want_none (y_assign (v := _) rfl rfl) rfl ?_
    refine w_nil ?_
    refine q_then (hK26 _ _ ?_)
    refine w_ret ?_
    refine q_ret (l := [.tmp 6]) (vs := [_]) rfl ⟨⟨rfl, show _ = (.int _ _ : Value) from rfl⟩, trivial⟩ ?_
    first
      | exact ⟨congrArg (Value.int .i64) (hinv.trans (of_here hi2 (by omega))).symm, hs.tail⟩
      | exact ⟨congrArg (Value.int .i64) (hinv.trans (of_end (by omega))).symm, hs.tail⟩

theorem iv_v {v : Value} {a b : Int} (h : a = b) : [v, Value.int .i64 a] = [v, Value.int .i64 b] := by rw [h]
theorem c80 {w0 w : World} {F : List (Nat × Obj)} (l : Lot) (p : At3) (hm : LIn w0 F l p) (hok : l.Ok) (b : Nat) (hb2 : b < l.bunches.length) (h : Int) (hs : St w0 w F) :
  Con Try.prog 80 [.agg (l.cells p).toArray, .int .i64 (b : Int), .int .i64 h] w fun v w' => ∃ B, Rt.Own v 3 1 (gradesL l.grades h (scarsOf l b)).length (iv (gradesL l.grades h (scarsOf l b))) B ∧ St w0 w' (B ++ F) := by
  refine con_of_wc (n := 38) Try.func80 rfl rfl (Nat.le_of_ble_eq_true rfl) ?_
  obtain ⟨ag, cg, ab, cb, ac, cc⟩ := p
  have hlg := hok.lg
  obtain ⟨bx, ox, hbx, hx⟩ := sl_brows hm.b hb2
  subst hbx
  have hbu := hok.bunch _ (List.getElem_mem hb2)
  refine w_seq (fun K2 hK1 => ?_)
  refine w_region ?_
  refine w_box (v := .agg #[.slice _ _ _, .slice _ _ _, .slice _ _ _]) (cs := [_, _, _]) want_none rfl rfl rfl hs (fun b3 w4 hs5 => ?_)
  refine w_pure want_none (y_assign (v := _) rfl rfl) rfl ?_
  refine w_nil ?_
  refine q_then (hK1 _ _ ?_)
  refine w_seq (fun K7 hK6 => ?_)
  refine w_region ?_
  refine w_pure want_none (y_assign (v := _) rfl rfl) rfl ?_
  refine w_nil ?_
  refine q_then (hK6 _ _ ?_)
  refine w_seq (fun K9 hK8 => ?_)
  refine w_region ?_
  refine w_pure want_none (y_fieldAddr (o := 1) (i := 1) Try.underlying26 rfl Try.sizeOf23 rfl rfl rfl) rfl ?_
  refine w_pure want_none (y_load1 Try.isAgg23 hs5 rfl rfl (ats_own (i := 0) (vs := [_]) rfl rfl)) rfl ?_
  refine w_pure want_none (y_move (v := .int _ _) rfl rfl) rfl ?_
  refine w_pure want_none (y_indexS Try.underlying23 Try.sizeOf81 rfl rfl rfl rfl (i := b) rfl (by omega)) rfl ?_
  refine w_pure want_none (y_fieldAddr (o := 2) (i := 1) Try.underlying81 rfl Try.sizeOf34 rfl rfl rfl) rfl ?_
  refine w_pure want_none (y_loadN (vs := [_, _]) Try.isAgg34 Try.sizeOf34 hs5.tail rfl rfl (show Ats _ _ _ _ [_, _] from Ats.part hx 2 2)) rfl ?_
  refine w_alloc (cs := [_, _]) want_none Try.zeroValue34 rfl hs5 (fun b10 w11 hs12 => ?_)
  refine w_store (i := 0) (v := .agg #[.int _ _, .int _ _]) (vs := [_, _]) want_none Try.sizeOf34 rfl rfl rfl rfl rfl (by simp [Value.oneCell']) hs12 rfl (Nat.le_of_ble_eq_true rfl) (fun w13 hs14 => ?_)
  refine w_nil ?_
  refine q_then (hK8 _ _ ?_)
  refine w_seq (fun K16 hK15 => ?_)
  refine w_seq (fun K18 hK17 => ?_)
  refine w_region ?_
  refine w_pure want_none (y_fieldAddr (o := 0) (i := 0) Try.underlying34 rfl Try.sizeOf3 rfl rfl rfl) rfl ?_
  refine w_pure want_none (y_load1 Try.isAgg3 hs14 rfl rfl (ats_own (i := 0) (vs := [_]) rfl rfl)) rfl ?_
  refine w_pure want_none (y_assign (v := .int _ _) rfl rfl) rfl ?_
  refine w_nil ?_
  refine q_then (hK17 _ _ ?_)
  refine w_block ?_
  refine w_loop [7, 9, 10, 19, 20, 21, 22, 23, 24, 25, 26, 27, 28, 29, 30, 31, 32, 33, 34, 35, 36] [7, 9] (fun k vs w => ∃ (q : Nat) (v : Value) (B : List (Nat × Obj)), vs = [v, .int .i64 ((l.bunches[b]'hb2).slo + q)] ∧ (q : Int) ≤ (l.bunches[b]'hb2).shi + 1 - (l.bunches[b]'hb2).slo ∧ k = ((l.bunches[b]'hb2).shi + 1 - (l.bunches[b]'hb2).slo).toNat - q ∧ Rt.Own v 3 1 (gradesL l.grades h (upto (l.bunches[b]'hb2).slo q)).length (iv (gradesL l.grades h (upto (l.bunches[b]'hb2).slo q))) B ∧ St w0 w ((b10, blk 34 [.int .i64 (l.bunches[b]'hb2).slo, .int .i64 (l.bunches[b]'hb2).shi]) :: (b3, blk 26 (l.cells ⟨ag, cg, some ⟨bx, ox, none⟩, cb, ac, cc⟩)) :: (B ++ F))) (((l.bunches[b]'hb2).shi + 1 - (l.bunches[b]'hb2).slo).toNat) ?_ ?_
  ·
   exact ⟨0, _, [], by rw [show (l.bunches[b]'hb2).slo + ((0 : Nat) : Int) = (l.bunches[b]'hb2).slo by omega]; rfl, by omega, by omega, own_nil 3 1, hs14⟩
  ·
   intro k vs μ w21 hI K20 hN19
   obtain ⟨q, v, B, rfl, hq, rfl, hown, hs⟩ := hI
   have hgl := gradesL_len l.grades h (l.bunches[b]'hb2).slo q
   obtain ⟨aG, cG, rfl, hslG, _, _⟩ := own_ints (w0 := w0) hown
   refine w_seq (fun K23 hK22 => ?_)
   refine w_seq (fun K25 hK24 => ?_)
   refine w_region ?_
   refine w_pure want_none (y_move (v := .int _ _) rfl rfl) rfl ?_
   refine w_pure want_none (y_fieldAddr (o := 1) (i := 1) Try.underlying34 rfl Try.sizeOf3 rfl rfl rfl) rfl ?_
   refine w_pure want_none (y_load1 Try.isAgg3 hs rfl rfl (ats_own (i := 0) (vs := [_]) rfl rfl)) rfl ?_
   refine w_pure want_none (y_leq rfl rfl rfl rfl) rfl ?_
   refine w_nil ?_
   refine q_then (hK24 _ _ ?_)
   refine w_cond rfl rfl (fun h26 => ?_) (fun h26 => ?_)
   ·
    try simp only [Bool.not_eq_true', Bool.not_eq_false', decide_eq_true_eq, decide_eq_false_iff_not, Int.not_lt, Int.not_le] at h26
    refine w_skip ?_
    refine q_then (hK22 _ _ ?_)
    refine w_seq (fun K28 hK27 => ?_)
    refine w_block ?_
    refine w_seq (fun K30 hK29 => ?_)
    refine w_region ?_
    refine w_pure want_none (y_loadN (vs := [_, _, _]) Try.isAgg26 Try.sizeOf26 hs rfl rfl (ats_own (i := 1) (vs := [_, _, _]) rfl rfl)) rfl ?_
    refine w_pure want_none (y_move (v := .int _ _) rfl rfl) rfl ?_
    refine w_pure want_none (y_move (v := .int _ _) rfl rfl) rfl ?_
    refine w_call want_none Try.call41 rfl rfl rfl rfl (c41 l ⟨_, _, _, _, _, _⟩ hm.app.cons.cons h ((l.bunches[b]'hb2).slo + q) hs) ?_
    rintro _ w32 ⟨rfl, hs33⟩
    refine w_pure want_none (y_assign (v := .int _ _) rfl rfl) rfl ?_
    refine w_nil ?_
    refine q_then (hK29 _ _ ?_)
    refine w_seq (fun K35 hK34 => ?_)
    refine w_region ?_
    refine w_pure want_none (y_move (v := .slice _ _ _) rfl rfl) rfl ?_
    refine w_pure want_none (y_move (v := .int _ _) rfl rfl) rfl ?_
    refine w_call want_none Try.call43 rfl rfl rfl rfl (c43 _ _ (gradesL l.grades h (upto (l.bunches[b]'hb2).slo q)) (by omega) hslG.top.cons.cons _ hs33) ?_
    rintro _ w37 ⟨rfl, hs38⟩
    refine w_pure want_none (y_not rfl rfl) rfl ?_
    refine w_nil ?_
    refine q_then (hK34 _ _ ?_)
    refine w_cond rfl rfl (fun h39 => ?_) (fun h39 => ?_)
    ·
     try simp only [Bool.not_eq_true', Bool.not_eq_false', decide_eq_true_eq, decide_eq_false_iff_not, Int.not_lt, Int.not_le] at h39
     refine w_region ?_
     refine w_pure want_none (y_move (v := .slice _ _ _) rfl rfl) rfl ?_
     refine w_pure want_none (y_move (v := .int _ _) rfl rfl) rfl ?_
     refine w_bslice (ps := [(0, _)]) (pv := [(0, .int _ _)]) (cs := [_]) want_none rfl rfl (fun w => Try_U_fb5 _ w) hs38 (fun b40 w41 hs42 => ?_)
     refine w_append (X := (_ :: _ :: _ :: [])) (B := B) (rows := [[_]]) (sz := 1) (bytes := 8) want_none Try.underlying37 Try_info3 rfl rfl rfl rfl rfl rfl rfl rfl rfl hs42 hown (sl_own (i := 0) rfl (by simp) rfl) rfl (by simp) (by simp [Value.oneCell']) (by simp only [maxLen]; omega) (by omega) (fun v43 w44 B45 ho46 hs47 => ?_)
     replace hs47 := (show St _ _ (_ :: _ :: _ :: B45 ++ (F)) from hs47)
     refine w_pure want_none (y_assign (v := v43) rfl rfl) rfl ?_
     refine w_nil ?_
     refine q_blk_normal ?_
     refine q_then (hK27 _ _ ?_)
     refine w_region ?_
     refine w_pure want_none (y_move (v := .int _ _) rfl rfl) rfl ?_
     refine w_pure want_none (y_add rfl rfl rfl rfl (by omega) (by omega)) rfl ?_
     refine w_pure want_none (y_assign (v := .int _ _) rfl rfl) rfl ?_
     refine w_nil ?_
     refine q_then (hN19 _ _ (Nx.intro (((l.bunches[b]'hb2).shi + 1 - (l.bunches[b]'hb2).slo).toNat - (q + 1)) (by omega) (by repeat (first | exact agree_mix | refine agree_upd rfl ?_ | refine agree_updL rfl ?_ _ | refine agree_mixin rfl ?_)) ?_))
     exact ⟨q + 1, _, _, iv_v (by omega), by omega, rfl, by rw [gradesL_no (by assumption)]; exact own_snoc ho46, hs47.tail⟩
    ·
     try simp only [Bool.not_eq_true', Bool.not_eq_false', decide_eq_true_eq, decide_eq_false_iff_not, Int.not_lt, Int.not_le] at h39
     refine w_skip ?_
     refine q_blk_normal ?_
     refine q_then (hK27 _ _ ?_)
     refine w_region ?_
     refine w_pure want_none (y_move (v := .int _ _) rfl rfl) rfl ?_
     refine w_pure want_none (y_add rfl rfl rfl rfl (by omega) (by omega)) rfl ?_
     refine w_pure want_none (y_assign (v := .int _ _) rfl rfl) rfl ?_
     refine w_nil ?_
     refine q_then (hN19 _ _ (Nx.intro (((l.bunches[b]'hb2).shi + 1 - (l.bunches[b]'hb2).slo).toNat - (q + 1)) (by omega) (by repeat (first | exact agree_mix | refine agree_upd rfl ?_ | refine agree_updL rfl ?_ _ | refine agree_mixin rfl ?_)) ?_))
     exact ⟨q + 1, _, B, iv_v (by omega), by omega, rfl, by rw [gradesL_yes (by assumption)]; exact hown, hs38⟩
   ·
    try simp only [Bool.not_eq_true', Bool.not_eq_false', decide_eq_true_eq, decide_eq_false_iff_not, Int.not_lt, Int.not_le] at h26
    refine w_exit ?_
    refine q_then_exit ?_
    refine q_then_exit ?_
    refine q_blk_this ?_
    refine q_then (hK15 _ _ ?_)
    refine w_seq (fun K49 hK48 => ?_)
    refine w_region ?_
    refine w_pure want_none (y_move (v := .slice _ _ _) rfl rfl) rfl ?_
    refine w_pure want_none (y_assign (v := .slice _ _ _) rfl rfl) rfl ?_
    refine w_nil ?_
    refine q_then (hK48 _ _ ?_)
    refine w_ret ?_
    refine q_ret (l := [.tmp 6]) (vs := [_]) rfl ⟨⟨rfl, show _ = (.slice _ _ _ : Value) from rfl⟩, trivial⟩ ?_
    have hqc : q = ((l.bunches[b]'hb2).shi + 1 - (l.bunches[b]'hb2).slo).toNat := by omega
    have hgs : gradesL l.grades h (scarsOf l b) = (gradesL l.grades h (upto (l.bunches[b]'hb2).slo q)) := by unfold scarsOf spanL; rw [bunch_at hb2, hqc]
    rw [hgs]
    exact ⟨B, hown, hs.tail.tail⟩

end Go.Proofs
/- Walks of this seat, printed by gen.py over the engine: what each function returns, in whatever world. No conditions but those of each contract. -/
set_option linter.unusedVariables false
set_option linter.unusedSimpArgs false
set_option maxRecDepth 20000
namespace Go.Proofs
open Go.Rt Go.Rt.Ha
attribute [local irreducible] WL WC Con Yd At Ats Sl Agree DW
theorem Try_V_fb5 (x0 : Option Addr) (l0 c0 : Nat) (w : World) : (Instr.buildSlice 64 1 [(0, .slice x0 l0 c0)].toArray).run Try.prog w = .ok (.slice (some ⟨w.heap.size, 0, none⟩) 1 1) (w.alloc (Go.Rt.blk 37 [.slice x0 l0 c0])) := by kernel_rfl
theorem Try_V_fb6  (w : World) : (Instr.buildSlice 37 0 [].toArray).run Try.prog w = .ok (.slice (some ⟨w.heap.size, 0, none⟩) 0 0) (w.alloc (Go.Rt.blk 3 [])) := by kernel_rfl
theorem Try_V_fb7 (x0 : Int) (w : World) : (Instr.buildSlice 37 1 [(0, .int .i64 x0)].toArray).run Try.prog w = .ok (.slice (some ⟨w.heap.size, 0, none⟩) 1 1) (w.alloc (Go.Rt.blk 3 [.int .i64 x0])) := by kernel_rfl
theorem Try_info37 : Try.prog.info? 37 = some Try.t37 := by kernel_rfl
theorem c92 {w0 w : World} {F : List (Nat × Obj)} (l : Lot) (p : At3) (hm : LIn w0 F l p) (hok : l.Ok) (hs : St w0 w F) :
  Con Try.prog 92 [.agg (l.cells p).toArray] w fun v w' => ∃ (B : List (Nat × Obj)) (vs : List Value) (a : Option Addr) (c : Nat), v = .slice a (felt l.bunches).length c ∧ Sl w0 B a 1 (vs.map fun v => [v]) ∧ EL w0 B vs (felt l.bunches) ∧ St w0 w' (B ++ F) := by
  refine con_of_wc (n := 54) Try.func92 rfl rfl (Nat.le_of_ble_eq_true rfl) ?_
  have hlb := hok.lb
  
  refine w_seq (fun K2 hK1 => ?_)
  refine w_region ?_
  refine w_box (v := .agg #[.slice _ _ _, .slice _ _ _, .slice _ _ _]) (cs := [_, _, _]) want_none rfl rfl rfl hs (fun b3 w4 hs5 => ?_)
  refine w_pure want_none (y_assign (v := _) rfl rfl) rfl ?_
  refine w_nil ?_
  refine q_then (hK1 _ _ ?_)
  refine w_seq (fun K7 hK6 => ?_)
  have hbx := ats_ofR (i := 0) (vs := l.cells p) hs5 rfl rfl
  refine w_region ?_
  refine w_bslice (ps := [(0, _)]) (pv := [(0, .slice _ _ _)]) (cs := [_]) want_none rfl rfl (fun w => Try_V_fb5 _ _ _ w) hs5 (fun b8 w9 hs10 => ?_)
  refine w_pure want_none (y_assign (v := .slice _ _ _) rfl rfl) rfl ?_
  refine w_nil ?_
  refine q_then (hK6 _ _ ?_)
  refine w_seq (fun K12 hK11 => ?_)
  refine w_seq (fun K14 hK13 => ?_)
  refine w_region ?_
  refine w_pure want_none (y_assign (v := _) rfl rfl) rfl ?_
  refine w_nil ?_
  refine q_then (hK13 _ _ ?_)
  refine w_block ?_
  refine w_loop [3, 4, 5, 6, 7, 9, 10, 11, 12, 13, 14, 15, 16, 17, 18, 19, 20, 21, 22, 23, 24, 25, 26, 27, 28, 29, 30, 31, 32, 33, 34, 35, 36, 37, 38, 39, 40, 41, 42, 43, 44, 45, 46, 47, 48, 49, 50, 51, 52] [3, 4] (fun kk vs0 w => ∃ (i : Nat) (vO : Value) (OB E : List (Nat × Obj)) (vs : List Value), vs0 = [vO, .int .i64 i] ∧ i ≤ l.bunches.length ∧ kk = l.bunches.length - i ∧ Rt.Own vO 37 1 (feltTo l i).length vs OB ∧ EL w0 E vs (feltTo l i) ∧ St w0 w (OB ++ (E ++ ((b3, blk 26 (l.cells p)) :: F)))) (l.bunches.length) ?_ ?_
  ·
   exact ⟨0, _, [_], [], [.slice none 0 0], rfl, by omega, by omega, own_lit rfl (by simp [maxLen]), ⟨rfl, fun k hk => ⟨none, 0, by simp [felt_zero] at hk; subst hk; rfl, by simp [felt_zero] at hk; subst hk; exact Sl.nil _ _, fun _ => rfl⟩⟩, hs10⟩
  ·
   intro k vs μ w17 hI K16 hN15
   obtain ⟨i, vO, OB, E, vs, rfl, hia, rfl, hown0, hel, hs⟩ := hI
   refine w_seq (fun K19 hK18 => ?_)
   refine w_seq (fun K21 hK20 => ?_)
   refine w_region ?_
   refine w_pure want_none (y_move (v := .int _ _) rfl rfl) rfl ?_
   refine w_pure want_none (y_fieldAddr (o := 1) (i := 1) Try.underlying26 rfl Try.sizeOf23 rfl rfl rfl) rfl ?_
   refine w_pure want_none (y_load1 Try.isAgg23 hs.drop.drop rfl rfl (show Ats _ _ _ _ [_] from Ats.part hbx 1 1)) rfl ?_
   refine w_pure want_none (y_lenS Try.underlying23 rfl rfl) rfl ?_
   refine w_pure want_none (y_lss rfl rfl rfl rfl) rfl ?_
   refine w_nil ?_
   refine q_then (hK20 _ _ ?_)
   refine w_cond rfl rfl (fun h22 => ?_) (fun h22 => ?_)
   ·
    try simp only [Bool.not_eq_true', Bool.not_eq_false', decide_eq_true_eq, decide_eq_false_iff_not, Int.not_lt, Int.not_le] at h22
    refine w_skip ?_
    refine q_then (hK18 _ _ ?_)
    refine w_seq (fun K24 hK23 => ?_)
    refine w_block ?_
    refine w_seq (fun K26 hK25 => ?_)
    have hi2 : i < l.bunches.length := by omega
    have hwl := feltTo_len hok (Nat.le_of_lt hi2)
    have hbb := hok.bunch _ (List.getElem_mem hi2)
    obtain ⟨aO, cO, rfl, hslO⟩ := own_sl_id (w0 := w0) hown0 hel.1 (E ++ ((b3, blk 26 (l.cells p)) :: F))
    obtain ⟨by_, oy, hby, hy⟩ := sl_brows hm.b hi2
    refine w_region ?_
    refine w_pure want_none (y_assign (v := _) rfl rfl) rfl ?_
    refine w_nil ?_
    refine q_then (hK25 _ _ ?_)
    refine w_seq (fun K28 hK27 => ?_)
    refine w_seq (fun K30 hK29 => ?_)
    refine w_region ?_
    refine w_pure want_none (y_assign (v := _) rfl rfl) rfl ?_
    refine w_nil ?_
    refine q_then (hK29 _ _ ?_)
    refine w_block ?_
    refine w_loop [5, 6, 7, 16, 17, 18, 19, 20, 21, 22, 23, 24, 25, 26, 27, 28, 29, 30, 31, 32, 33, 34, 35, 36, 37, 38, 39, 40, 41, 42, 43, 44, 45, 46, 47, 48, 49, 50, 51] [5, 6] (fun kk vs0 w => ∃ (k : Nat) (vN : Value) (NB E1 : List (Nat × Obj)) (ws : List Value), vs0 = [vN, .int .i64 k] ∧ k ≤ (feltTo l i).length ∧ kk = (feltTo l i).length - k ∧ Rt.Own vN 37 1 (fTo (l.bunches[i]'hi2) (feltTo l i) k).length ws NB ∧ EL w0 E1 ws (fTo (l.bunches[i]'hi2) (feltTo l i) k) ∧ St w0 w (NB ++ (E1 ++ (OB ++ (E ++ ((b3, blk 26 (l.cells p)) :: F)))))) ((feltTo l i).length) ?_ ?_
    ·
     exact ⟨0, _, [], [], [], rfl, by omega, by omega, own_nil 37 1, EL.nil _ _, hs⟩
    ·
     intro k vs μ w33 hI K32 hN31
     obtain ⟨k, vN, NB, E1, ws, rfl, hka, rfl, hown1, hel1, hs⟩ := hI
     refine w_seq (fun K35 hK34 => ?_)
     refine w_seq (fun K37 hK36 => ?_)
     refine w_region ?_
     refine w_pure want_none (y_move (v := .int _ _) rfl rfl) rfl ?_
     refine w_pure want_none (y_move (v := .slice _ _ _) rfl rfl) rfl ?_
     refine w_pure want_none (y_lenS Try.underlying64 rfl rfl) rfl ?_
     refine w_pure want_none (y_lss rfl rfl rfl rfl) rfl ?_
     refine w_nil ?_
     refine q_then (hK36 _ _ ?_)
     refine w_cond rfl rfl (fun h38 => ?_) (fun h38 => ?_)
     ·
      try simp only [Bool.not_eq_true', Bool.not_eq_false', decide_eq_true_eq, decide_eq_false_iff_not, Int.not_lt, Int.not_le] at h38
      refine w_skip ?_
      refine q_then (hK34 _ _ ?_)
      refine w_seq (fun K40 hK39 => ?_)
      refine w_block ?_
      refine w_seq (fun K42 hK41 => ?_)
      have hk2 : k < (feltTo l i).length := by omega
      obtain ⟨bx, ox, b2, c2, haO, hx, hsx0, hnx⟩ := el_at hslO (hel.mono fun _ h => h.drop.front) hk2
      subst haO
      have hxl := feltTo_in (Nat.le_of_lt hi2) (List.getElem_mem hk2)
      refine w_region ?_
      refine w_pure want_none (y_fieldAddr (o := 1) (i := 1) Try.underlying26 rfl Try.sizeOf23 rfl rfl rfl) rfl ?_
      refine w_pure want_none (yd_slice hby (y_load1 Try.isAgg23 hs.drop.drop.drop.drop rfl rfl (show Ats _ _ _ _ [_] from Ats.part hbx 1 1))) rfl ?_
      refine w_pure want_none (y_move (v := .int _ _) rfl rfl) rfl ?_
      refine w_pure want_none (y_indexS Try.underlying23 Try.sizeOf81 rfl rfl rfl rfl (i := _) rfl (by omega)) rfl ?_
      refine w_pure want_none (y_fieldAddr (o := 0) (i := 0) Try.underlying81 rfl Try.sizeOf34 rfl rfl rfl) rfl ?_
      refine w_pure want_none (y_fieldAddr (o := 0) (i := 0) Try.underlying34 rfl Try.sizeOf3 rfl rfl rfl) rfl ?_
      refine w_pure want_none (y_load1 Try.isAgg3 hs.drop.drop.drop.drop.tail rfl rfl (show Ats _ _ _ _ [_] from Ats.part hy 0 1)) rfl ?_
      refine w_pure want_none (y_assign (v := .int _ _) rfl rfl) rfl ?_
      refine w_nil ?_
      refine q_then (hK41 _ _ ?_)
      refine w_block ?_
      refine w_loop [5, 7, 29, 30, 31, 32, 33, 34, 35, 36, 37, 38, 39, 40, 41, 42, 43, 44, 45, 46, 47, 48, 49, 50, 51] [5, 7] (fun kk vs0 w => ∃ (q : Nat) (vN : Value) (NB E1 : List (Nat × Obj)) (ws : List Value), vs0 = [vN, .int .i64 ((l.bunches[i]'hi2).lo + q)] ∧ (q : Int) ≤ (l.bunches[i]'hi2).hi + 1 - (l.bunches[i]'hi2).lo ∧ kk = ((l.bunches[i]'hi2).hi + 1 - (l.bunches[i]'hi2).lo).toNat - q ∧ Rt.Own vN 37 1 (fTo (l.bunches[i]'hi2) (feltTo l i) k ++ fPart (l.bunches[i]'hi2) ((feltTo l i)[k]'hk2) q).length ws NB ∧ EL w0 E1 ws (fTo (l.bunches[i]'hi2) (feltTo l i) k ++ fPart (l.bunches[i]'hi2) ((feltTo l i)[k]'hk2) q) ∧ St w0 w (NB ++ (E1 ++ (OB ++ (E ++ ((b3, blk 26 (l.cells p)) :: F)))))) (((l.bunches[i]'hi2).hi + 1 - (l.bunches[i]'hi2).lo).toNat) ?_ ?_
      ·
       exact ⟨0, vN, NB, E1, ws, iv_v (by omega), by omega, by omega, by rw [show fPart _ _ 0 = [] from rfl, List.append_nil]; exact hown1, by rw [show fPart _ _ 0 = [] from rfl, List.append_nil]; exact hel1, hs⟩
      ·
       intro k vs μ w45 hI K44 hN43
       obtain ⟨q, vN, NB, E1, ws, rfl, hqa, rfl, hown2, hel2, hs⟩ := hI
       refine w_seq (fun K47 hK46 => ?_)
       refine w_seq (fun K49 hK48 => ?_)
       refine w_region ?_
       refine w_pure want_none (y_move (v := .int _ _) rfl rfl) rfl ?_
       refine w_pure want_none (y_fieldAddr (o := 1) (i := 1) Try.underlying26 rfl Try.sizeOf23 rfl rfl rfl) rfl ?_
       refine w_pure want_none (yd_slice hby (y_load1 Try.isAgg23 hs.drop.drop.drop.drop rfl rfl (show Ats _ _ _ _ [_] from Ats.part hbx 1 1))) rfl ?_
       refine w_pure want_none (y_move (v := .int _ _) rfl rfl) rfl ?_
       refine w_pure want_none (y_indexS Try.underlying23 Try.sizeOf81 rfl rfl rfl rfl (i := _) rfl (by omega)) rfl ?_
       refine w_pure want_none (y_fieldAddr (o := 0) (i := 0) Try.underlying81 rfl Try.sizeOf34 rfl rfl rfl) rfl ?_
       refine w_pure want_none (y_fieldAddr (o := 1) (i := 1) Try.underlying34 rfl Try.sizeOf3 rfl rfl rfl) rfl ?_
       refine w_pure want_none (y_load1 Try.isAgg3 hs.drop.drop.drop.drop.tail rfl rfl (show Ats _ _ _ _ [_] from Ats.part hy 1 1)) rfl ?_
       refine w_pure want_none (y_leq rfl rfl rfl rfl) rfl ?_
       refine w_nil ?_
       refine q_then (hK48 _ _ ?_)
       refine w_cond rfl rfl (fun h50 => ?_) (fun h50 => ?_)
       ·
        try simp only [Bool.not_eq_true', Bool.not_eq_false', decide_eq_true_eq, decide_eq_false_iff_not, Int.not_lt, Int.not_le] at h50
        refine w_skip ?_
        refine q_then (hK46 _ _ ?_)
        refine w_seq (fun K52 hK51 => ?_)
        refine w_block ?_
        have hgl := fTo_len (b := (l.bunches[i]'hi2)) (ws := (feltTo l i)) (by omega) k
        have hgq := fPart_len (l.bunches[i]'hi2) ((feltTo l i)[k]'hk2) q
        refine w_region ?_
        refine w_pure want_none (y_move (v := vN) rfl rfl) rfl ?_
        refine w_bslice (ps := []) (pv := []) (cs := []) want_none rfl rfl (fun w => Try_V_fb6  w) hs (fun b53 w54 hs55 => ?_)
        refine w_pure want_none (y_move (v := .slice _ _ _) rfl rfl) rfl ?_
        refine w_pure want_none (y_move (v := .int _ _) rfl rfl) rfl ?_
        refine w_pure want_none (y_indexS Try.underlying64 Try.sizeOf37 rfl rfl rfl rfl (i := _) rfl (by omega)) rfl ?_
        refine w_pure want_none (y_load1 Try.isAgg37 hs55.tail.drop.drop rfl rfl hx) rfl ?_
        refine w_append (X := ([])) (B := [_]) (rows := (((feltTo l i)[k]'hk2).map fun x => [Value.int .i64 x])) (sz := 1) (bytes := 8) want_none Try.underlying37 Try_info3 rfl rfl rfl rfl rfl rfl rfl rfl rfl hs55 own_made hsx0.app.app.cons (by simp) hnx (ints_one _) (by simp only [maxLen]; omega) (by omega) (fun v56 w57 B58 ho59 hs60 => ?_)
        replace hs60 := (show St _ _ (B58 ++ (NB ++ (E1 ++ (OB ++ (E ++ (_ :: F)))))) from hs60)
        refine w_pure want_none (y_move (v := .int _ _) rfl rfl) rfl ?_
        refine w_bslice (ps := [(0, _)]) (pv := [(0, .int _ _)]) (cs := [_]) want_none rfl rfl (fun w => Try_V_fb7 _ w) hs60 (fun b61 w62 hs63 => ?_)
        refine w_append (X := (_ :: [])) (B := B58) (rows := [[_]]) (sz := 1) (bytes := 8) want_none Try.underlying37 Try_info3 rfl rfl rfl rfl rfl rfl rfl rfl rfl hs63 ho59 (sl_own (i := 0) rfl (by simp) rfl) rfl (by simp) (by simp [Value.oneCell']) (by simp only [maxLen]; omega) (by omega) (fun v64 w65 B66 ho67 hs68 => ?_)
        replace hs68 := (show St _ _ (_ :: B66 ++ (NB ++ (E1 ++ (OB ++ (E ++ (_ :: F)))))) from hs68)
        obtain ⟨a3, c3, rfl, hsl3, hn3, _⟩ := own_ints (w0 := w0) (own_ints1 ho67)
        refine w_bslice (ps := [(0, _)]) (pv := [(0, .slice _ _ _)]) (cs := [_]) want_none rfl rfl (fun w => Try_V_fb5 _ _ _ w) hs68 (fun b69 w70 hs71 => ?_)
        refine w_append (X := (_ :: _ :: B66)) (B := NB) (rows := [[_]]) (sz := 1) (bytes := 24) want_none Try.underlying64 Try_info37 rfl rfl rfl rfl rfl rfl rfl rfl rfl hs71 hown2 (sl_own (i := 0) rfl (by simp) rfl) rfl (by simp) (by simp [Value.oneCell']) (by simp only [maxLen, List.length_append]; omega) (by simp only [List.length_append]; omega) (fun v72 w73 B74 ho75 hs76 => ?_)
        replace hs76 := (show St _ _ (_ :: _ :: B66 ++ (B74 ++ (E1 ++ (OB ++ (E ++ (_ :: F)))))) from hs76)
        refine w_pure want_none (y_assign (v := v72) rfl rfl) rfl ?_
        refine w_nil ?_
        refine q_blk_normal ?_
        refine q_then (hK51 _ _ ?_)
        refine w_region ?_
        refine w_pure want_none (y_move (v := .int _ _) rfl rfl) rfl ?_
        refine w_pure want_none (y_add rfl rfl rfl rfl (by omega) (by omega)) rfl ?_
        refine w_pure want_none (y_assign (v := .int _ _) rfl rfl) rfl ?_
        refine w_nil ?_
        refine q_then (hN43 _ _ (Nx.intro (((l.bunches[i]'hi2).hi + 1 - (l.bunches[i]'hi2).lo).toNat - (q + 1)) (by omega) (by repeat (first | exact agree_mix | refine agree_upd rfl ?_ | refine agree_updL rfl ?_ _ | refine agree_mixin rfl ?_)) ?_))
        exact ⟨q + 1, _, _, B66 ++ E1, _, iv_v (by omega), by omega, rfl, by rw [fPart_succ, ← List.append_assoc]; exact own_el ho75, by rw [fPart_succ, ← List.append_assoc]; exact el_more hel2 hsl3 hn3, el_perm hs76⟩
       ·
        try simp only [Bool.not_eq_true', Bool.not_eq_false', decide_eq_true_eq, decide_eq_false_iff_not, Int.not_lt, Int.not_le] at h50
        refine w_exit ?_
        refine q_then_exit ?_
        refine q_then_exit ?_
        refine q_blk_this ?_
        refine q_blk_normal ?_
        refine q_then (hK39 _ _ ?_)
        refine w_region ?_
        refine w_pure want_none (y_move (v := .int _ _) rfl rfl) rfl ?_
        refine w_pure want_none (y_add rfl rfl rfl rfl (by omega) (by omega)) rfl ?_
        refine w_pure want_none (y_assign (v := .int _ _) rfl rfl) rfl ?_
        refine w_nil ?_
        refine q_then (hN31 _ _ (Nx.intro ((feltTo l i).length - (k + 1)) (by omega) (by repeat (first | exact agree_mix | refine agree_upd rfl ?_ | refine agree_updL rfl ?_ _ | refine agree_mixin rfl ?_)) ?_))
        have hqb : q = ((l.bunches[i]'hi2).hi + 1 - (l.bunches[i]'hi2).lo).toNat := by omega
        rw [fPart_all hqb, ← fTo_succ hk2] at hown2 hel2
        exact ⟨k + 1, vN, NB, E1, ws, rfl, by omega, by omega, hown2, hel2, hs⟩
     ·
      try simp only [Bool.not_eq_true', Bool.not_eq_false', decide_eq_true_eq, decide_eq_false_iff_not, Int.not_lt, Int.not_le] at h38
      refine w_exit ?_
      refine q_then_exit ?_
      refine q_then_exit ?_
      refine q_blk_this ?_
      refine q_then (hK27 _ _ ?_)
      refine w_region ?_
      refine w_pure want_none (y_move (v := vN) rfl rfl) rfl ?_
      refine w_pure want_none (y_assign (v := vN) rfl rfl) rfl ?_
      refine w_nil ?_
      refine q_blk_normal ?_
      refine q_then (hK23 _ _ ?_)
      refine w_region ?_
      refine w_pure want_none (y_move (v := .int _ _) rfl rfl) rfl ?_
      refine w_pure want_none (y_add rfl rfl rfl rfl (by omega) (by omega)) rfl ?_
      refine w_pure want_none (y_assign (v := .int _ _) rfl rfl) rfl ?_
      refine w_nil ?_
      refine q_then (hN15 _ _ (Nx.intro (l.bunches.length - (i + 1)) (by omega) (by repeat (first | exact agree_mix | refine agree_upd rfl ?_ | refine agree_updL rfl ?_ _ | refine agree_mixin rfl ?_)) ?_))
      have hkn : k = (feltTo l i).length := by omega
      rw [hkn, felt_step hi2] at hown1 hel1
      exact ⟨i + 1, vN, NB, E1, ws, rfl, by omega, rfl, hown1, hel1, (hs.perm (el_drop2 NB E1 OB E _)).drop⟩
   ·
    try simp only [Bool.not_eq_true', Bool.not_eq_false', decide_eq_true_eq, decide_eq_false_iff_not, Int.not_lt, Int.not_le] at h22
    refine w_exit ?_
    refine q_then_exit ?_
    refine q_then_exit ?_
    refine q_blk_this ?_
    refine q_then (hK11 _ _ ?_)
    refine w_seq (fun K78 hK77 => ?_)
    refine w_region ?_
    refine w_pure want_none (y_move (v := vO) rfl rfl) rfl ?_
    refine w_pure want_none (y_assign (v := vO) rfl rfl) rfl ?_
    refine w_nil ?_
    refine q_then (hK77 _ _ ?_)
    refine w_ret ?_
    refine q_ret (l := [.tmp 2]) (vs := [_]) rfl ⟨⟨rfl, show _ = (vO : Value) from rfl⟩, trivial⟩ ?_
    have hin : i = l.bunches.length := by omega
    subst hin
    rw [feltTo_all] at hown0 hel
    obtain ⟨aO, cO, rfl, hslO⟩ := own_sl_id (w0 := w0) hown0 hel.1 E
    exact ⟨OB ++ E, vs, aO, cO, rfl, hslO, hel.app, kq_own (by rw [List.append_assoc]; exact hs)⟩

end Go.Proofs
/- Walks of this seat, printed by gen.py over the engine: what each function returns, in whatever world. No conditions but those of each contract. -/
set_option linter.unusedVariables false
set_option linter.unusedSimpArgs false
set_option maxRecDepth 20000
namespace Go.Proofs
open Go.Rt Go.Rt.Ha
attribute [local irreducible] WL WC Con Yd At Ats Sl Agree DW
theorem Try_Wa_fb6 (x0 : Option Addr) (l0 c0 : Nat) (w : World) : (Instr.buildSlice 64 1 [(0, .slice x0 l0 c0)].toArray).run Try.prog w = .ok (.slice (some ⟨w.heap.size, 0, none⟩) 1 1) (w.alloc (Go.Rt.blk 37 [.slice x0 l0 c0])) := by kernel_rfl
theorem felt_all {l : Lot} (hok : l.Ok) : (felt l.bunches).length ≤ 4096 := by
  have h := feltTo_len hok (Nat.le_refl l.bunches.length); rw [feltTo_all] at h; exact h
theorem so_and {a b : Bool} {c d : Int} {x y : Bool} (h : (x && y) = a) (k : c = d) : [Value.bool (x && y), Value.int .i64 c] = [Value.bool a, Value.int .i64 d] := by rw [h, k]
theorem c45 {w0 w : World} {F : List (Nat × Obj)} (l : Lot) (p : At3) (hm : LIn w0 F l p) (hok : l.Ok) (abt : Option Addr) (cbt : Nat) (bt : List Int) (hbl : bt.length ≤ 9223372036854775807) (hbs : Sl w0 F abt 1 (bt.map fun x => [Value.int .i64 x])) (hs : St w0 w F) :
  Con Try.prog 45 [.agg (l.cells p).toArray, .slice abt bt.length cbt] w fun v w' => ∃ (B : List (Nat × Obj)) (vs : List Value) (a : Option Addr) (c : Nat), v = .slice a (waysR l bt).length c ∧ Sl w0 B a 1 (vs.map fun v => [v]) ∧ EL w0 B vs (waysR l bt) ∧ St w0 w' (B ++ F) := by
  refine con_of_wc (n := 59) Try.func45 rfl rfl (Nat.le_of_ble_eq_true rfl) ?_
  have hlc := hok.lc
  have hlb := hok.lb
  refine w_seq (fun K2 hK1 => ?_)
  refine w_region ?_
  refine w_box (v := .agg #[.slice _ _ _, .slice _ _ _, .slice _ _ _]) (cs := [_, _, _]) want_none rfl rfl rfl hs (fun b3 w4 hs5 => ?_)
  refine w_pure want_none (y_assign (v := _) rfl rfl) rfl ?_
  refine w_nil ?_
  refine q_then (hK1 _ _ ?_)
  refine w_seq (fun K7 hK6 => ?_)
  have hbx := ats_ofR (i := 0) (vs := l.cells p) hs5 rfl rfl
  refine w_region ?_
  refine w_pure want_none (y_loadN (vs := [_, _, _]) Try.isAgg26 Try.sizeOf26 hs5 rfl rfl hbx) rfl ?_
  refine w_call want_none Try.call92 rfl rfl rfl rfl (c92 l p hm.cons hok hs5) ?_
  rintro _ w9 ⟨FB, fv, aF, cF, rfl, hslF, helF, hs10⟩
  replace hs10 := (show St _ _ (FB ++ (_ :: F)) from hs10)
  have hfl := felt_all hok
  refine w_pure want_none (y_assign (v := .slice _ _ _) rfl rfl) rfl ?_
  refine w_nil ?_
  refine q_then (hK6 _ _ ?_)
  refine w_seq (fun K12 hK11 => ?_)
  refine w_region ?_
  refine w_pure want_none (y_assign (v := _) rfl rfl) rfl ?_
  refine w_nil ?_
  refine q_then (hK11 _ _ ?_)
  refine w_seq (fun K14 hK13 => ?_)
  refine w_seq (fun K16 hK15 => ?_)
  refine w_region ?_
  refine w_pure want_none (y_assign (v := _) rfl rfl) rfl ?_
  refine w_nil ?_
  refine q_then (hK15 _ _ ?_)
  refine w_block ?_
  refine w_loop [6, 7, 8, 9, 12, 13, 14, 15, 16, 17, 18, 19, 20, 21, 22, 23, 24, 25, 26, 27, 28, 29, 30, 31, 32, 33, 34, 35, 36, 37, 38, 39, 40, 41, 42, 43, 44, 45, 46, 47, 48, 49, 50, 51, 52, 53, 54, 55, 56, 57] [6, 7] (fun kk vs0 w => ∃ (i : Nat) (v : Value) (OB : List (Nat × Obj)) (ws : List Value), vs0 = [v, .int .i64 i] ∧ i ≤ (felt l.bunches).length ∧ kk = (felt l.bunches).length - i ∧ Rt.Own v 37 1 (((felt l.bunches).take i).filter (fun h => soR bt h 0 l.counts)).length ws OB ∧ EL w0 FB ws (((felt l.bunches).take i).filter (fun h => soR bt h 0 l.counts)) ∧ St w0 w (OB ++ (FB ++ ((b3, blk 26 (l.cells p)) :: F)))) ((felt l.bunches).length) ?_ ?_
  ·
   exact ⟨0, _, [], [], rfl, by omega, by omega, own_nil 37 1, EL.nil _ _, hs10⟩
  ·
   intro k vs μ w19 hI K18 hN17
   obtain ⟨i, v, OB, ws, rfl, hia, rfl, hown, hel, hs⟩ := hI
   refine w_seq (fun K21 hK20 => ?_)
   refine w_seq (fun K23 hK22 => ?_)
   refine w_region ?_
   refine w_pure want_none (y_move (v := .int _ _) rfl rfl) rfl ?_
   refine w_pure want_none (y_move (v := .slice _ _ _) rfl rfl) rfl ?_
   refine w_pure want_none (y_lenS Try.underlying64 rfl rfl) rfl ?_
   refine w_pure want_none (y_lss rfl rfl rfl rfl) rfl ?_
   refine w_nil ?_
   refine q_then (hK22 _ _ ?_)
   refine w_cond rfl rfl (fun h24 => ?_) (fun h24 => ?_)
   ·
    try simp only [Bool.not_eq_true', Bool.not_eq_false', decide_eq_true_eq, decide_eq_false_iff_not, Int.not_lt, Int.not_le] at h24
    refine w_skip ?_
    refine q_then (hK20 _ _ ?_)
    refine w_seq (fun K26 hK25 => ?_)
    refine w_block ?_
    refine w_seq (fun K28 hK27 => ?_)
    have hi2 : i < (felt l.bunches).length := by omega
    obtain ⟨bx, ox, bq3, c3, haF, hx0, hsx0, hnx⟩ := el_at hslF helF hi2
    subst haF
    have hx := hx0.top (F := (b3, blk 26 (l.cells p)) :: F)
    have hin := felt_num hok (List.getElem_mem hi2)
    have hwl : (((felt l.bunches).take i).filter (fun h => soR bt h 0 l.counts)).length ≤ i := by have := List.length_filter_le (fun h => soR bt h 0 l.counts) ((felt l.bunches).take i); rw [List.length_take] at this; omega
    refine w_region ?_
    refine w_pure want_none (y_assign (v := _) rfl rfl) rfl ?_
    refine w_nil ?_
    refine q_then (hK27 _ _ ?_)
    refine w_seq (fun K30 hK29 => ?_)
    refine w_seq (fun K32 hK31 => ?_)
    refine w_region ?_
    refine w_pure want_none (y_assign (v := _) rfl rfl) rfl ?_
    refine w_nil ?_
    refine q_then (hK31 _ _ ?_)
    refine w_block ?_
    refine w_loop [8, 9, 18, 19, 20, 21, 22, 23, 24, 25, 26, 27, 28, 29, 30, 31, 32, 33, 34, 35, 36, 37, 38, 39, 40, 41, 42, 43, 44, 45, 46, 47, 48, 49] [8, 9] (fun kk vs0 w => ∃ (k : Nat), vs0 = [.bool (soR bt ((felt l.bunches)[i]'hi2) 0 (l.counts.take k)), .int .i64 k] ∧ k ≤ l.counts.length ∧ kk = l.counts.length - k ∧ St w0 w (OB ++ (FB ++ ((b3, blk 26 (l.cells p)) :: F)))) (l.counts.length) ?_ ?_
    ·
     exact ⟨0, rfl, by omega, by omega, hs⟩
    ·
     intro k vs μ w35 hI K34 hN33
     obtain ⟨k, rfl, hka, rfl, hs⟩ := hI
     generalize hsk : soR bt ((felt l.bunches)[i]'hi2) 0 (l.counts.take k) = sk
     refine w_seq (fun K37 hK36 => ?_)
     refine w_seq (fun K39 hK38 => ?_)
     refine w_region ?_
     refine w_pure want_none (y_move (v := .int _ _) rfl rfl) rfl ?_
     refine w_pure want_none (y_fieldAddr (o := 2) (i := 2) Try.underlying26 rfl Try.sizeOf24 rfl rfl rfl) rfl ?_
     refine w_pure want_none (y_load1 Try.isAgg24 hs.drop.drop rfl rfl (show Ats _ _ _ _ [_] from Ats.part hbx 2 1)) rfl ?_
     refine w_pure want_none (y_lenS Try.underlying24 rfl rfl) rfl ?_
     refine w_pure want_none (y_lss rfl rfl rfl rfl) rfl ?_
     refine w_nil ?_
     refine q_then (hK38 _ _ ?_)
     refine w_cond rfl rfl (fun h40 => ?_) (fun h40 => ?_)
     ·
      try simp only [Bool.not_eq_true', Bool.not_eq_false', decide_eq_true_eq, decide_eq_false_iff_not, Int.not_lt, Int.not_le] at h40
      refine w_skip ?_
      refine q_then (hK36 _ _ ?_)
      refine w_seq (fun K42 hK41 => ?_)
      refine w_block ?_
      have hk2 : k < l.counts.length := by omega
      obtain ⟨by_, oy, hby, hy⟩ := sl_crows hm.c hk2
      have hcc := hok.count _ (List.getElem_mem hk2)
      have hp64 := pow64 hlb
      refine w_draw [] [(0, 0), (1, 0), (2, 0), (3, 0), (4, 2), (5, 0), (6, 0), (7, 1), (8, 0), (9, 0), (10, 1), (11, 0), (12, 0), (13, 0), (14, 1), (16, 0), (17, 1), (18, 0), (19, 0), (20, 0), (21, 1), (15, 2), (22, 0), (23, 0), (24, 0), (25, 0)] Try_mo (drawOK_of (by kernel_rfl)) hs (fun w43 hs44 => ?_)
      refine d_any rfl want_none rfl (fun _ => (y_move (v := .bool _) rfl rfl)) ?_
      refine d_any rfl want_none rfl (fun _ => (y_move (v := .bool _) rfl rfl)) ?_
      refine d_split (fun h45 => ?_) (fun h45 => ?_)
      ·
       subst h45
       refine d_any rfl (want_yes rfl rfl rfl) rfl (fun _ => (y_move (v := .slice _ _ _) rfl rfl)) ?_
       refine d_any rfl (want_yes rfl rfl rfl) rfl (fun _ => (y_move (v := .int _ _) rfl rfl)) ?_
       refine d_eff rfl ?_
       refine w_call (want_yes rfl rfl rfl) Try.call43 rfl rfl rfl rfl (c43 _ _ bt hbl hbs.cons.app.app _ hs44) ?_
       rintro _ w47 ⟨rfl, hs48⟩
       refine w_nil ?_
       refine qn ⟨hs48, ?_⟩
       refine d_any rfl (want_yes rfl rfl rfl) rfl (fun _ => (y_move (v := .bool _) rfl rfl)) ?_
       refine d_split (fun h49 => ?_) (fun h49 => ?_)
       ·
        try simp only [Bool.not_eq_true', Bool.not_eq_false', decide_eq_true_eq, decide_eq_false_iff_not, Int.not_lt, Int.not_le] at h49
        refine d_skip rfl rfl rfl rfl ?_
        refine d_skip1 rfl rfl rfl rfl hs48 ?_
        refine d_skip rfl rfl rfl rfl ?_
        refine d_skip rfl rfl rfl rfl ?_
        refine d_skip1 rfl rfl rfl rfl hs48 ?_
        refine d_skip rfl rfl rfl rfl ?_
        refine d_skip rfl rfl rfl rfl ?_
        refine d_skip rfl rfl rfl rfl ?_
        refine d_skip1 rfl rfl rfl rfl hs48 ?_
        refine d_skip rfl rfl rfl rfl ?_
        refine d_skip1 rfl rfl rfl rfl hs48 ?_
        refine d_skip rfl rfl rfl rfl ?_
        refine d_skip rfl rfl rfl rfl ?_
        refine d_skip rfl rfl rfl rfl ?_
        refine d_skip1 rfl rfl rfl rfl hs48 ?_
        refine d_eff rfl ?_
        refine w_skipop rfl rfl rfl ?_
        refine w_nil ?_
        refine qn ⟨hs48, ?_⟩
        refine d_skip rfl rfl rfl rfl ?_
        refine d_any rfl (want_yes rfl rfl rfl) rfl (fun _ => (y_pickT (v := _) rfl rfl rfl rfl)) ?_
        refine d_any rfl want_none rfl (fun _ => (y_pickT (v := .bool _) rfl rfl rfl rfl)) ?_
        refine d_any rfl want_none rfl (fun _ => (y_assign (v := .bool _) rfl rfl)) ?_
        refine d_nil ?_
        refine q_blk_normal ?_
        refine q_then (hK41 _ _ ?_)
        refine w_region ?_
        refine w_pure want_none (y_move (v := .int _ _) rfl rfl) rfl ?_
        refine w_pure want_none (y_add rfl rfl rfl rfl (by omega) (by omega)) rfl ?_
        refine w_pure want_none (y_assign (v := .int _ _) rfl rfl) rfl ?_
        refine w_nil ?_
        refine q_then (hN33 _ _ (Nx.intro (l.counts.length - (k + 1)) (by omega) (by repeat (first | exact agree_mix | refine agree_upd rfl ?_ | refine agree_updL rfl ?_ _ | refine agree_mixin rfl ?_)) ?_))
        first
          | exact ⟨k + 1, bi2 (by rw [soR_take hk2, hsk, (by assumption : hasI bt (k : Int) = true)]; rfl) rfl, by omega, rfl, hs48⟩
          | exact ⟨k + 1, bi2 (by rw [soR_take hk2, hsk, (by assumption : hasI bt (k : Int) = false)]; rfl) rfl, by omega, rfl, hs48⟩
          | exact ⟨k + 1, bi2 (by rw [soR_take hk2, hsk]; rfl) rfl, by omega, rfl, hs48⟩
       ·
        try simp only [Bool.not_eq_true', Bool.not_eq_false', decide_eq_true_eq, decide_eq_false_iff_not, Int.not_lt, Int.not_le] at h49
        refine d_any rfl (want_yes rfl rfl rfl) rfl (fun _ => (y_fieldAddr (o := 2) (i := 2) Try.underlying26 rfl Try.sizeOf24 rfl rfl rfl)) ?_
        refine d_take rfl (want_yes rfl rfl rfl) rfl hs48 (fun _ hq => (yd_slice hby (y_load1 Try.isAgg24 hq.drop.drop rfl rfl (show Ats _ _ _ _ [_] from Ats.part hbx 2 1)))) ?_
        refine d_any rfl (want_yes rfl rfl rfl) rfl (fun _ => (y_move (v := .int _ _) rfl rfl)) ?_
        refine d_any rfl (want_yes rfl rfl rfl) rfl (fun _ => (y_indexS Try.underlying24 Try.sizeOf51 rfl rfl rfl rfl (i := _) rfl (by omega))) ?_
        refine d_take rfl (want_yes rfl rfl rfl) rfl hs48 (fun _ hq => (y_loadN (vs := [_, _]) Try.isAgg51 Try.sizeOf51 hq.drop.drop.tail rfl rfl hy)) ?_
        refine d_any rfl (want_yes rfl rfl rfl) rfl (fun _ => (y_move (v := .slice _ _ _) rfl rfl)) ?_
        refine d_any rfl (want_yes rfl rfl rfl) rfl (fun _ => (y_move (v := .int _ _) rfl rfl)) ?_
        refine d_any rfl (want_yes rfl rfl rfl) rfl (fun _ => (y_indexS Try.underlying64 Try.sizeOf37 rfl rfl rfl rfl (i := _) rfl (by omega))) ?_
        refine d_take rfl (want_yes rfl rfl rfl) rfl hs48 (fun _ hq => (y_load1 Try.isAgg37 hq.drop rfl rfl hx)) ?_
        refine d_any rfl (want_yes rfl rfl rfl) rfl (fun _ => (y_fieldAddr (o := 2) (i := 2) Try.underlying26 rfl Try.sizeOf24 rfl rfl rfl)) ?_
        refine d_take rfl (want_yes rfl rfl rfl) rfl hs48 (fun _ hq => (yd_slice hby (y_load1 Try.isAgg24 hq.drop.drop rfl rfl (show Ats _ _ _ _ [_] from Ats.part hbx 2 1)))) ?_
        refine d_any rfl (want_yes rfl rfl rfl) rfl (fun _ => (y_move (v := .int _ _) rfl rfl)) ?_
        refine d_any rfl (want_yes rfl rfl rfl) rfl (fun _ => (y_indexS Try.underlying24 Try.sizeOf51 rfl rfl rfl rfl (i := _) rfl (by omega))) ?_
        refine d_any rfl (want_yes rfl rfl rfl) rfl (fun _ => (y_fieldAddr (o := 1) (i := 1) Try.underlying51 rfl Try.sizeOf3 rfl rfl rfl)) ?_
        refine d_take rfl (want_yes rfl rfl rfl) rfl hs48 (fun _ hq => (y_load1 Try.isAgg3 hq.drop.drop.tail rfl rfl (show Ats _ _ _ _ [_] from Ats.part hy 1 1))) ?_
        refine d_eff rfl ?_
        refine w_call (want_yes rfl rfl rfl) Try.call93 rfl rfl rfl rfl (c93 (l.counts[k]'hk2) (by omega) _ _ ((felt l.bunches)[i]'hi2) (by omega) (fun z hz => by have := hin.2 z hz; omega) hsx0.top.app hs48) ?_
        rintro _ w51 ⟨rfl, hs52⟩
        refine w_nil ?_
        refine qn ⟨hs52, ?_⟩
        refine d_any rfl (want_yes rfl rfl rfl) rfl (fun _ => (y_eql rfl rfl rfl rfl)) ?_
        refine d_any rfl (want_yes rfl rfl rfl) rfl (fun _ => (y_pickF (v := .bool _) rfl rfl rfl rfl)) ?_
        refine d_any rfl want_none rfl (fun _ => (y_pickT (v := .bool _) rfl rfl rfl rfl)) ?_
        refine d_any rfl want_none rfl (fun _ => (y_assign (v := .bool _) rfl rfl)) ?_
        refine d_nil ?_
        refine q_blk_normal ?_
        refine q_then (hK41 _ _ ?_)
        refine w_region ?_
        refine w_pure want_none (y_move (v := .int _ _) rfl rfl) rfl ?_
        refine w_pure want_none (y_add rfl rfl rfl rfl (by omega) (by omega)) rfl ?_
        refine w_pure want_none (y_assign (v := .int _ _) rfl rfl) rfl ?_
        refine w_nil ?_
        refine q_then (hN33 _ _ (Nx.intro (l.counts.length - (k + 1)) (by omega) (by repeat (first | exact agree_mix | refine agree_upd rfl ?_ | refine agree_updL rfl ?_ _ | refine agree_mixin rfl ?_)) ?_))
        first
          | exact ⟨k + 1, bi2 (by rw [soR_take hk2, hsk, (by assumption : hasI bt (k : Int) = true)]; rfl) rfl, by omega, rfl, hs52⟩
          | exact ⟨k + 1, bi2 (by rw [soR_take hk2, hsk, (by assumption : hasI bt (k : Int) = false)]; rfl) rfl, by omega, rfl, hs52⟩
          | exact ⟨k + 1, bi2 (by rw [soR_take hk2, hsk]; rfl) rfl, by omega, rfl, hs52⟩
      ·
       subst h45
       refine d_skip rfl rfl rfl rfl ?_
       refine d_skip rfl rfl rfl rfl ?_
       refine d_eff rfl ?_
       refine w_skipop rfl rfl rfl ?_
       refine w_nil ?_
       refine qn ⟨hs44, ?_⟩
       refine d_skip rfl rfl rfl rfl ?_
       refine d_skip' rfl rfl rfl rfl ?_
       refine d_skip1' rfl rfl rfl rfl hs44 ?_
       refine d_skip' rfl rfl rfl rfl ?_
       refine d_skip' rfl rfl rfl rfl ?_
       refine d_skip1' rfl rfl rfl rfl hs44 ?_
       refine d_skip' rfl rfl rfl rfl ?_
       refine d_skip' rfl rfl rfl rfl ?_
       refine d_skip' rfl rfl rfl rfl ?_
       refine d_skip1' rfl rfl rfl rfl hs44 ?_
       refine d_skip' rfl rfl rfl rfl ?_
       refine d_skip1' rfl rfl rfl rfl hs44 ?_
       refine d_skip' rfl rfl rfl rfl ?_
       refine d_skip' rfl rfl rfl rfl ?_
       refine d_skip' rfl rfl rfl rfl ?_
       refine d_skip1' rfl rfl rfl rfl hs44 ?_
       refine d_eff rfl ?_
       refine w_skipop' rfl rfl rfl ?_
       refine w_nil ?_
       refine qn ⟨hs44, ?_⟩
       refine d_skip' rfl rfl rfl rfl ?_
       refine d_skip rfl rfl rfl rfl ?_
       refine d_any rfl want_none rfl (fun _ => (y_pickF (v := _) rfl rfl rfl rfl)) ?_
       refine d_any rfl want_none rfl (fun _ => (y_assign (v := .bool _) rfl rfl)) ?_
       refine d_nil ?_
       refine q_blk_normal ?_
       refine q_then (hK41 _ _ ?_)
       refine w_region ?_
       refine w_pure want_none (y_move (v := .int _ _) rfl rfl) rfl ?_
       refine w_pure want_none (y_add rfl rfl rfl rfl (by omega) (by omega)) rfl ?_
       refine w_pure want_none (y_assign (v := .int _ _) rfl rfl) rfl ?_
       refine w_nil ?_
       refine q_then (hN33 _ _ (Nx.intro (l.counts.length - (k + 1)) (by omega) (by repeat (first | exact agree_mix | refine agree_upd rfl ?_ | refine agree_updL rfl ?_ _ | refine agree_mixin rfl ?_)) ?_))
       first
         | exact ⟨k + 1, bi2 (by rw [soR_take hk2, hsk, (by assumption : hasI bt (k : Int) = true)]; rfl) rfl, by omega, rfl, hs44⟩
         | exact ⟨k + 1, bi2 (by rw [soR_take hk2, hsk, (by assumption : hasI bt (k : Int) = false)]; rfl) rfl, by omega, rfl, hs44⟩
         | exact ⟨k + 1, bi2 (by rw [soR_take hk2, hsk]; rfl) rfl, by omega, rfl, hs44⟩
     ·
      try simp only [Bool.not_eq_true', Bool.not_eq_false', decide_eq_true_eq, decide_eq_false_iff_not, Int.not_lt, Int.not_le] at h40
      refine w_exit ?_
      refine q_then_exit ?_
      refine q_then_exit ?_
      refine q_blk_this ?_
      refine q_then (hK29 _ _ ?_)
      refine w_seq (fun K54 hK53 => ?_)
      have hkn : k = l.counts.length := by omega
      subst hkn
      rw [List.take_length] at hsk
      refine w_region ?_
      refine w_pure want_none (y_move (v := .bool _) rfl rfl) rfl ?_
      refine w_nil ?_
      refine q_then (hK53 _ _ ?_)
      refine w_cond rfl rfl (fun h55 => ?_) (fun h55 => ?_)
      ·
       subst h55
       refine w_region ?_
       refine w_pure want_none (y_move (v := v) rfl rfl) rfl ?_
       refine w_pure want_none (y_move (v := .slice _ _ _) rfl rfl) rfl ?_
       refine w_pure want_none (y_move (v := .int _ _) rfl rfl) rfl ?_
       refine w_pure want_none (y_indexS Try.underlying64 Try.sizeOf37 rfl rfl rfl rfl (i := _) rfl (by omega)) rfl ?_
       refine w_pure want_none (y_load1 Try.isAgg37 hs.drop rfl rfl hx) rfl ?_
       refine w_bslice (ps := [(0, _)]) (pv := [(0, .slice _ _ _)]) (cs := [_]) want_none rfl rfl (fun w => Try_Wa_fb6 _ _ _ w) hs (fun b56 w57 hs58 => ?_)
       refine w_append (X := (_ :: [])) (B := OB) (rows := [[_]]) (sz := 1) (bytes := 24) want_none Try.underlying64 Try_info37 rfl rfl rfl rfl rfl rfl rfl rfl rfl hs58 hown (sl_own (i := 0) rfl (by simp) rfl) rfl (by simp) (by simp [Value.oneCell']) (by simp only [maxLen]; omega) (by omega) (fun v59 w60 B61 ho62 hs63 => ?_)
       replace hs63 := (show St _ _ (_ :: B61 ++ (FB ++ (_ :: F))) from hs63)
       refine w_pure want_none (y_assign (v := v59) rfl rfl) rfl ?_
       refine w_nil ?_
       refine q_blk_normal ?_
       refine q_then (hK25 _ _ ?_)
       refine w_region ?_
       refine w_pure want_none (y_move (v := .int _ _) rfl rfl) rfl ?_
       refine w_pure want_none (y_add rfl rfl rfl rfl (by omega) (by omega)) rfl ?_
       refine w_pure want_none (y_assign (v := .int _ _) rfl rfl) rfl ?_
       refine w_nil ?_
       refine q_then (hN17 _ _ (Nx.intro ((felt l.bunches).length - (i + 1)) (by omega) (by repeat (first | exact agree_mix | refine agree_upd rfl ?_ | refine agree_updL rfl ?_ _ | refine agree_mixin rfl ?_)) ?_))
       exact ⟨i + 1, _, _, _, rfl, by omega, rfl, by rw [filt_yes hi2 hsk]; exact own_el ho62, by rw [filt_yes hi2 hsk]; exact hel.snoc hsx0 hnx, hs63.tail⟩
      ·
       subst h55
       refine w_skip ?_
       refine q_blk_normal ?_
       refine q_then (hK25 _ _ ?_)
       refine w_region ?_
       refine w_pure want_none (y_move (v := .int _ _) rfl rfl) rfl ?_
       refine w_pure want_none (y_add rfl rfl rfl rfl (by omega) (by omega)) rfl ?_
       refine w_pure want_none (y_assign (v := .int _ _) rfl rfl) rfl ?_
       refine w_nil ?_
       refine q_then (hN17 _ _ (Nx.intro ((felt l.bunches).length - (i + 1)) (by omega) (by repeat (first | exact agree_mix | refine agree_upd rfl ?_ | refine agree_updL rfl ?_ _ | refine agree_mixin rfl ?_)) ?_))
       exact ⟨i + 1, v, OB, ws, rfl, by omega, rfl, by rw [filt_no hi2 hsk]; exact hown, by rw [filt_no hi2 hsk]; exact hel, hs⟩
   ·
    try simp only [Bool.not_eq_true', Bool.not_eq_false', decide_eq_true_eq, decide_eq_false_iff_not, Int.not_lt, Int.not_le] at h24
    refine w_exit ?_
    refine q_then_exit ?_
    refine q_then_exit ?_
    refine q_blk_this ?_
    refine q_then (hK13 _ _ ?_)
    refine w_seq (fun K65 hK64 => ?_)
    refine w_region ?_
    refine w_pure want_none (y_move (v := v) rfl rfl) rfl ?_
    refine w_pure want_none (y_assign (v := v) rfl rfl) rfl ?_
    refine w_nil ?_
    refine q_then (hK64 _ _ ?_)
    refine w_ret ?_
    refine q_ret (l := [.tmp 4]) (vs := [_]) rfl ⟨⟨rfl, show _ = (v : Value) from rfl⟩, trivial⟩ ?_
    have hin : i = (felt l.bunches).length := by omega
    subst hin
    rw [List.take_length] at hown hel
    obtain ⟨aO, cO, rfl, hslO⟩ := own_sl_id (w0 := w0) hown hel.1 FB
    exact ⟨OB ++ FB, ws, aO, cO, rfl, hslO, hel.app, kq_own (by rw [List.append_assoc]; exact hs)⟩

end Go.Proofs
/- Plain words of the hand layer: spans, grades and others over the ways, step by step. No conditions. -/
set_option linter.unusedSimpArgs false
set_option linter.unusedVariables false
namespace Go.Rt.Ha
theorem at_get {h : List Int} {b : Nat} (hb : b < h.length) : at_ h b = h[b] := by simp [at_, List.getD, hb]
theorem spanR_one {b : Nat} {ws : List (List Int)} (h : 0 < ws.length) : spanR b (ws.take 1) = (at_ ws[0] b, at_ ws[0] b) := by
  match ws, h with
  | x :: r, _ => rfl
theorem spanR_step {b : Nat} {ws : List (List Int)} {i : Nat} (h1 : 1 ≤ i) (h : i < ws.length) : spanR b (ws.take (i + 1)) = (min (spanR b (ws.take i)).1 (at_ ws[i] b), max (spanR b (ws.take i)).2 (at_ ws[i] b)) := by
  match ws, i, h1, h with
  | x :: r, i + 1, _, h =>
    simp only [List.take_succ_cons, spanR, List.getElem_cons_succ]
    exact fold_take _ _ (by simpa using h)
theorem could_step {l : Lot} {ws : List (List Int)} {b : Nat} {g : Int} {i : Nat} (h : i < ws.length) : couldR l (ws.take (i + 1)) b g = (couldR l (ws.take i) b g || hasI (gradesL l.grades (at_ ws[i] b) (scarsOf l b)) g) := by
  unfold couldR; rw [List.take_succ_eq_append_getElem h, List.any_append]; simp
theorem must_step {l : Lot} {ws : List (List Int)} {b : Nat} {g : Int} {i : Nat} (h : i < ws.length) : mustR l (ws.take (i + 1)) b g = (mustR l (ws.take i) b g && onlyG (gradesL l.grades (at_ ws[i] b) (scarsOf l b)) g) := by
  unfold mustR; rw [List.take_succ_eq_append_getElem h, List.all_append]; simp
theorem gradeTo_yes {l : Lot} {ws : List (List Int)} {b k : Nat} {g : Int} (hg : g = (k : Int) - 1) (h : couldR l ws b g = true) : gradeTo l ws b (k + 1) = gradeTo l ws b k ++ [g] := by subst hg; simp only [gradeTo]; rw [if_pos h]
theorem gradeTo_no {l : Lot} {ws : List (List Int)} {b k : Nat} {g : Int} (hg : g = (k : Int) - 1) (h : couldR l ws b g = false) : gradeTo l ws b (k + 1) = gradeTo l ws b k := by subst hg; simp only [gradeTo]; rw [if_neg (by simp [h]), List.append_nil]
theorem gradeTo_len (l : Lot) (ws : List (List Int)) (b : Nat) : ∀ k, (gradeTo l ws b k).length ≤ k
  | 0 => by simp [gradeTo]
  | k + 1 => by have := gradeTo_len l ws b k; simp only [gradeTo, List.length_append]; split <;> simp <;> omega
theorem gradesL_len2 {l : Lot} (hok : l.Ok) {b : Nat} (hb : b < l.bunches.length) (h : Int) : (gradesL l.grades h (scarsOf l b)).length ≤ 10 := by
  have hbu := hok.bunch _ (List.getElem_mem hb)
  have := gradesL_len l.grades h (l.bunches[b]).slo ((l.bunches[b]).shi + 1 - (l.bunches[b]).slo).toNat
  unfold scarsOf spanL; rw [bunch_at hb]; omega
theorem only_dec {L : List Int} {g : Int} (h : L.length = 1) : onlyG L g = decide (L[0]'(by omega) = g) := by
  unfold onlyG; rw [decide_eq_true h]; simp [List.getD, h]
theorem only_not {L : List Int} {g : Int} (h : ¬ L.length = 1) : onlyG L g = false := by unfold onlyG; rw [decide_eq_false h]; rfl
theorem idxC_1 {l : Lot} {n : Int} {b : Nat} (h : ¬ (check l).2.2 = 0) : idxC l n b = (check l).2.2 := by unfold idxC; rw [if_neg h]
theorem idxC_2 {l : Lot} {n : Int} {b : Nat} (h : (check l).2.2 = 0) (h2 : ¬ (0 ≤ n ∧ n ≤ (b : Int) - 1)) : idxC l n b = 4 := by
  unfold idxC idxE; rw [if_pos h, if_pos]; unfold out; rw [Bool.or_eq_true]; simp; omega
theorem idxC_3 {l : Lot} {n : Int} {b : Nat} (h : (check l).2.2 = 0) (h2 : 0 ≤ n ∧ n ≤ (b : Int) - 1) : idxC l n b = 0 := by
  unfold idxC idxE; rw [if_pos h, if_neg]; unfold out; rw [Bool.or_eq_true]; simp; omega
theorem idxC_enter (l : Lot) (n : Int) (b : Nat) : kE l (idxC l n b) = enterE l (idxE n b) := kE_enter l (idxE n b)
theorem idxC_zero {l : Lot} {n : Int} {b : Nat} (h : idxC l n b = 0) : (check l).2.2 = 0 ∧ 0 ≤ n ∧ n < b := by
  have h1 := idxC_ok h
  unfold idxC at h
  rw [if_pos h1] at h
  exact ⟨h1, idxE_zero h⟩
end Go.Rt.Ha
/- Walks of this seat, printed by gen.py over the engine: what each function returns, in whatever world. No conditions but those of each contract. -/
set_option linter.unusedVariables false
set_option linter.unusedSimpArgs false
set_option maxRecDepth 20000
namespace Go.Proofs
open Go.Rt Go.Rt.Ha
attribute [local irreducible] WL WC Con Yd At Ats Sl Agree DW
theorem Try_Ya_fb6 (x0 : Int) (x1 : Int) (w : World) : (Instr.build 34 [(0, .int .i64 x0), (1, .int .i64 x1)].toArray).run Try.prog w = .ok (.agg #[.int .i64 x0, .int .i64 x1]) w := by kernel_rfl
theorem c72 {w0 w : World} {F : List (Nat × Obj)} (l : Lot) (p : At3) (hm : LIn w0 F l p) (e : Int) (hok : e = 0 → l.Ok) (hs : St w0 w F) :
  Con Try.prog 72 [.agg (l.cells p).toArray, .int .i64 e] w fun v w' => (kE l e ≠ 0 ∧ v = .tuple #[.slice none 0 0, .int .i64 (kE l e)] ∧ St w0 w' F) ∨ (kE l e = 0 ∧ ∃ (B : List (Nat × Obj)) (vs : List Value) (a : Option Addr) (c : Nat), v = .tuple #[.slice a (Ha.ways l 0).length c, .int .i64 0] ∧ Sl w0 B a 1 (vs.map fun v => [v]) ∧ EL w0 B vs (Ha.ways l 0) ∧ St w0 w' (B ++ F)) := by
  refine con_of_wc (n := 16) Try.func72 rfl rfl (Nat.le_of_ble_eq_true rfl) ?_
  refine w_seq (fun K2 hK1 => ?_)
  refine w_region ?_
  refine w_box (v := .agg #[.slice _ _ _, .slice _ _ _, .slice _ _ _]) (cs := [_, _, _]) want_none rfl rfl rfl hs (fun b3 w4 hs5 => ?_)
  refine w_pure want_none (y_assign (v := _) rfl rfl) rfl ?_
  refine w_pure want_none (y_assign (v := _) rfl rfl) rfl ?_
  refine w_nil ?_
  refine q_then (hK1 _ _ ?_)
  refine w_seq (fun K7 hK6 => ?_)
  refine w_seq (fun K9 hK8 => ?_)
  refine w_region ?_
  refine w_pure want_none (y_move (v := .int _ _) rfl rfl) rfl ?_
  refine w_pure want_none (y_neq rfl rfl rfl rfl) rfl ?_
  refine w_nil ?_
  refine q_then (hK8 _ _ ?_)
  refine w_cond rfl rfl (fun h10 => ?_) (fun h10 => ?_)
  ·
   try simp only [Bool.not_eq_true', Bool.not_eq_false', decide_eq_true_eq, decide_eq_false_iff_not, Int.not_lt, Int.not_le] at h10
   refine w_seq (fun K12 hK11 => ?_)
   refine w_region ?_
   refine w_pure want_none (y_move (v := .int _ _) rfl rfl) rfl ?_
   refine w_pure want_none (y_assign (v := _) rfl rfl) rfl ?_
   refine w_pure want_none (y_assign (v := .int _ _) rfl rfl) rfl ?_
   refine w_nil ?_
   refine q_then (hK11 _ _ ?_)
   refine w_ret ?_
   refine q_then_ret ?_
   refine q_ret (l := [.tmp 4, .tmp 5]) (vs := [_, _]) rfl ⟨⟨rfl, show _ = (.slice _ _ _ : Value) from rfl⟩, ⟨rfl, show _ = (.int _ _ : Value) from rfl⟩, trivial⟩ ?_
   first
     | exact .inl ⟨by rw [kE_1 (by assumption)]; assumption, by rw [kE_1 (by assumption)]; rfl, hs5.tail⟩
     | (have hw0 : Ha.ways l 0 = [] := List.length_eq_zero_iff.1 (by omega)
        exact .inl ⟨by rw [kE_2 (by assumption) hw0]; decide, by rw [kE_2 (by assumption) hw0]; rfl, hs5.tail⟩)
     | (have hw0 : Ha.ways l 0 ≠ [] := fun h => by (have := congrArg List.length h; simp only [List.length_nil] at this; omega)
        exact .inr ⟨kE_3 (by assumption) hw0, B, vs, a, c, rfl, hslB, helB, kq_own hs5⟩)
  ·
   try simp only [Bool.not_eq_true', Bool.not_eq_false', decide_eq_true_eq, decide_eq_false_iff_not, Int.not_lt, Int.not_le] at h10
   refine w_skip ?_
   refine q_then (hK6 _ _ ?_)
   refine w_seq (fun K14 hK13 => ?_)
   refine w_region ?_
   refine w_pure want_none (y_loadN (vs := [_, _, _]) Try.isAgg26 Try.sizeOf26 hs5 rfl rfl (ats_own (i := 0) (vs := [_, _, _]) rfl rfl)) rfl ?_
   refine w_call want_none Try.call45 rfl rfl rfl rfl ((by have h := c45 l p hm.cons (hok (by assumption)) none 0 [] (by simp) (Sl.nil _ _) hs5; rw [waysR_nil] at h; exact h)) ?_
   rintro _ w16 ⟨B, vs, a, c, rfl, hslB, helB, hs17⟩
   replace hs17 := (show St _ _ (B ++ (_ :: F)) from hs17)
   refine w_pure want_none (y_assign (v := .slice _ _ _) rfl rfl) rfl ?_
   refine w_nil ?_
   refine q_then (hK13 _ _ ?_)
   refine w_seq (fun K19 hK18 => ?_)
   refine w_seq (fun K21 hK20 => ?_)
   refine w_region ?_
   refine w_pure want_none (y_move (v := .slice _ _ _) rfl rfl) rfl ?_
   refine w_pure want_none (y_lenS Try.underlying64 rfl rfl) rfl ?_
   refine w_pure want_none (y_eql rfl rfl rfl rfl) rfl ?_
   refine w_nil ?_
   refine q_then (hK20 _ _ ?_)
   refine w_cond rfl rfl (fun h22 => ?_) (fun h22 => ?_)
   ·
    try simp only [Bool.not_eq_true', Bool.not_eq_false', decide_eq_true_eq, decide_eq_false_iff_not, Int.not_lt, Int.not_le] at h22
    refine w_seq (fun K24 hK23 => ?_)
    refine w_region ?_
    refine w_pure want_none (y_assign (v := _) rfl rfl) rfl ?_
    refine w_pure want_none (y_assign (v := _) rfl rfl) rfl ?_
    refine w_nil ?_
    refine q_then (hK23 _ _ ?_)
    refine w_ret ?_
    refine q_then_ret ?_
    refine q_ret (l := [.tmp 4, .tmp 5]) (vs := [_, _]) rfl ⟨⟨rfl, show _ = (.slice _ _ _ : Value) from rfl⟩, ⟨rfl, show _ = (.int _ _ : Value) from rfl⟩, trivial⟩ ?_
    first
      | exact .inl ⟨by rw [kE_1 (by assumption)]; assumption, by rw [kE_1 (by assumption)]; rfl, hs17.drop.tail⟩
      | (have hw0 : Ha.ways l 0 = [] := List.length_eq_zero_iff.1 (by omega)
         exact .inl ⟨by rw [kE_2 (by assumption) hw0]; decide, by rw [kE_2 (by assumption) hw0]; rfl, hs17.drop.tail⟩)
      | (have hw0 : Ha.ways l 0 ≠ [] := fun h => by (have := congrArg List.length h; simp only [List.length_nil] at this; omega)
         exact .inr ⟨kE_3 (by assumption) hw0, B, vs, a, c, rfl, hslB, helB, kq_own hs17⟩)
   ·
    try simp only [Bool.not_eq_true', Bool.not_eq_false', decide_eq_true_eq, decide_eq_false_iff_not, Int.not_lt, Int.not_le] at h22
    refine w_skip ?_
    refine q_then (hK18 _ _ ?_)
    refine w_seq (fun K26 hK25 => ?_)
    refine w_region ?_
    refine w_pure want_none (y_move (v := .slice _ _ _) rfl rfl) rfl ?_
    refine w_pure want_none (y_assign (v := .slice _ _ _) rfl rfl) rfl ?_
    refine w_pure want_none (y_assign (v := _) rfl rfl) rfl ?_
    refine w_nil ?_
    refine q_then (hK25 _ _ ?_)
    refine w_ret ?_
    refine q_ret (l := [.tmp 4, .tmp 5]) (vs := [_, _]) rfl ⟨⟨rfl, show _ = (.slice _ _ _ : Value) from rfl⟩, ⟨rfl, show _ = (.int _ _ : Value) from rfl⟩, trivial⟩ ?_
    first
      | exact .inl ⟨by rw [kE_1 (by assumption)]; assumption, by rw [kE_1 (by assumption)]; rfl, hs17.drop.tail⟩
      | (have hw0 : Ha.ways l 0 = [] := List.length_eq_zero_iff.1 (by omega)
         exact .inl ⟨by rw [kE_2 (by assumption) hw0]; decide, by rw [kE_2 (by assumption) hw0]; rfl, hs17.drop.tail⟩)
      | (have hw0 : Ha.ways l 0 ≠ [] := fun h => by (have := congrArg List.length h; simp only [List.length_nil] at this; omega)
         exact .inr ⟨kE_3 (by assumption) hw0, B, vs, a, c, rfl, hslB, helB, kq_own hs17⟩)

theorem c73 {w0 w : World} {F : List (Nat × Obj)} (l : Lot) (p : At3) (hm : LIn w0 F l p) (n : Int) (b : Nat) (hb : b ≤ 9223372036854775807) (hs : St w0 w F) :
  Con Try.prog 73 [.agg (l.cells p).toArray, .int .i64 n, .int .i64 (b : Int)] w fun v w' => v = .int .i64 (idxC l n b) ∧ St w0 w' F := by
  refine con_of_wc (n := 26) Try.func73 rfl rfl (Nat.le_of_ble_eq_true rfl) ?_
  refine w_seq (fun K2 hK1 => ?_)
  refine w_region ?_
  refine w_box (v := .agg #[.slice _ _ _, .slice _ _ _, .slice _ _ _]) (cs := [_, _, _]) want_none rfl rfl rfl hs (fun b3 w4 hs5 => ?_)
  refine w_pure want_none (y_assign (v := _) rfl rfl) rfl ?_
  refine w_nil ?_
  refine q_then (hK1 _ _ ?_)
  refine w_seq (fun K7 hK6 => ?_)
  refine w_region ?_
  refine w_pure want_none (y_loadN (vs := [_, _, _]) Try.isAgg26 Try.sizeOf26 hs5 rfl rfl (ats_own (i := 0) (vs := [_, _, _]) rfl rfl)) rfl ?_
  refine w_call want_none Try.call17 rfl rfl rfl rfl (c17 l p hm.cons hs5) ?_
  rintro _ w9 ⟨rfl, hs10⟩
  refine w_pure want_none (y_move (v := .tuple _) rfl rfl) rfl ?_
  refine w_pure want_none (y_extract (v := .int _ _) rfl rfl rfl) rfl ?_
  refine w_pure want_none (y_extract (v := .int _ _) rfl rfl rfl) rfl ?_
  refine w_pure want_none (y_extract (v := .int _ _) rfl rfl rfl) rfl ?_
  refine w_pure want_none (y_assign (v := .int _ _) rfl rfl) rfl ?_
  refine w_pure want_none (y_assign (v := .int _ _) rfl rfl) rfl ?_
  refine w_pure want_none (y_assign (v := .int _ _) rfl rfl) rfl ?_
  refine w_nil ?_
  refine q_then (hK6 _ _ ?_)
  refine w_seq (fun K12 hK11 => ?_)
  refine w_seq (fun K14 hK13 => ?_)
  refine w_region ?_
  refine w_pure want_none (y_move (v := .int _ _) rfl rfl) rfl ?_
  refine w_pure want_none (y_eql rfl rfl rfl rfl) rfl ?_
  refine w_pure want_none (y_move (v := .bool _) rfl rfl) rfl ?_
  refine w_split (fun h15 => ?_) (fun h15 => ?_)
  ·
   try simp only [Bool.not_eq_true', Bool.not_eq_false', decide_eq_true_eq, decide_eq_false_iff_not, Int.not_lt, Int.not_le] at h15
   refine w_pure (want_yes rfl rfl rfl) (y_move (v := .int _ _) rfl rfl) rfl ?_
   refine w_pure (want_yes rfl rfl rfl) (y_move (v := .int _ _) rfl rfl) rfl ?_
   refine w_pure (want_yes rfl rfl rfl) (y_sub rfl rfl rfl rfl (by omega) (by omega)) rfl ?_
   refine w_call (want_yes rfl rfl rfl) Try.call51 rfl rfl rfl rfl (c51 _ _ _ hs10) ?_
   rintro _ w17 ⟨rfl, hs18⟩
   refine w_pure (want_yes rfl rfl rfl) (y_not rfl rfl) rfl ?_
   refine w_pure want_none (y_pickT (v := .bool _) rfl rfl rfl rfl) rfl ?_
   refine w_nil ?_
   refine q_then (hK13 _ _ ?_)
   refine w_cond rfl rfl (fun h19 => ?_) (fun h19 => ?_)
   ·
    try simp only [Bool.not_eq_true', Bool.not_eq_false', decide_eq_true_eq, decide_eq_false_iff_not, Int.not_lt, Int.not_le] at h19
    refine w_region ?_
    refine w_pure want_none (y_assign (v := _) rfl rfl) rfl ?_
    refine w_nil ?_
    refine q_then (hK11 _ _ ?_)
    refine w_seq (fun K21 hK20 => ?_)
    refine w_region ?_
    refine w_pure want_none (y_move (v := .int _ _) rfl rfl) rfl ?_
    refine w_pure want_none (y_assign (v := .int _ _) rfl rfl) rfl ?_
    refine w_nil ?_
    refine q_then (hK20 _ _ ?_)
    refine w_ret ?_
    refine q_ret (l := [.tmp 6]) (vs := [_]) rfl ⟨⟨rfl, show _ = (.int _ _ : Value) from rfl⟩, trivial⟩ ?_
    first
      | exact ⟨congrArg (Value.int .i64) (idxC_2 (by assumption) (by assumption)).symm, hs18.tail⟩
      | exact ⟨congrArg (Value.int .i64) ((by assumption : (check l).2.2 = 0).trans (idxC_3 (by assumption) (by assumption)).symm), hs18.tail⟩
      | exact ⟨congrArg (Value.int .i64) (idxC_1 (by assumption)).symm, hs18.tail⟩
   ·
    try simp only [Bool.not_eq_true', Bool.not_eq_false', decide_eq_true_eq, decide_eq_false_iff_not, Int.not_lt, Int.not_le] at h19
    refine w_skip ?_
    refine q_then (hK11 _ _ ?_)
    refine w_seq (fun K23 hK22 => ?_)
    refine w_region ?_
    refine w_pure want_none (y_move (v := .int _ _) rfl rfl) rfl ?_
    refine w_pure want_none (y_assign (v := .int _ _) rfl rfl) rfl ?_
    refine w_nil ?_
    refine q_then (hK22 _ _ ?_)
    refine w_ret ?_
    refine q_ret (l := [.tmp 6]) (vs := [_]) rfl ⟨⟨rfl, show _ = (.int _ _ : Value) from rfl⟩, trivial⟩ ?_
    first
      | exact ⟨congrArg (Value.int .i64) (idxC_2 (by assumption) (by assumption)).symm, hs18.tail⟩
      | exact ⟨congrArg (Value.int .i64) ((by assumption : (check l).2.2 = 0).trans (idxC_3 (by assumption) (by assumption)).symm), hs18.tail⟩
      | exact ⟨congrArg (Value.int .i64) (idxC_1 (by assumption)).symm, hs18.tail⟩
  ·
   try simp only [Bool.not_eq_true', Bool.not_eq_false', decide_eq_true_eq, decide_eq_false_iff_not, Int.not_lt, Int.not_le] at h15
   refine w_skipop rfl rfl rfl ?_
   refine w_skipop rfl rfl rfl ?_
   refine w_skipop rfl rfl rfl ?_
   refine w_skipop rfl rfl rfl ?_
   refine w_skipop rfl rfl rfl ?_
   refine w_pure want_none (y_pickF (v := _) rfl rfl rfl rfl) rfl ?_
   refine w_nil ?_
   refine q_then (hK13 _ _ ?_)
   refine w_condF rfl rfl ?_
   refine w_skip ?_
   refine q_then (hK11 _ _ ?_)
   refine w_seq (fun K25 hK24 => ?_)
   refine w_region ?_
   refine w_pure want_none (y_move (v := .int _ _) rfl rfl) rfl ?_
   refine w_pure want_none (y_assign (v := .int _ _) rfl rfl) rfl ?_
   refine w_nil ?_
   refine q_then (hK24 _ _ ?_)
   refine w_ret ?_
   refine q_ret (l := [.tmp 6]) (vs := [_]) rfl ⟨⟨rfl, show _ = (.int _ _ : Value) from rfl⟩, trivial⟩ ?_
   first
     | exact ⟨congrArg (Value.int .i64) (idxC_2 (by assumption) (by assumption)).symm, hs10.tail⟩
     | exact ⟨congrArg (Value.int .i64) ((by assumption : (check l).2.2 = 0).trans (idxC_3 (by assumption) (by assumption)).symm), hs10.tail⟩
     | exact ⟨congrArg (Value.int .i64) (idxC_1 (by assumption)).symm, hs10.tail⟩

theorem c81 {w0 w : World} {F : List (Nat × Obj)} (x y n : Int) (hs : St w0 w F) :
  Con Try.prog 81 [.agg #[.int .i64 x, .int .i64 y], .int .i64 n] w fun v w' => v = .agg #[.int .i64 (min x n), .int .i64 (max y n)] ∧ St w0 w' F := by
  refine con_of_wc (n := 14) Try.func81 rfl rfl (Nat.le_of_ble_eq_true rfl) ?_
  refine w_seq (fun K2 hK1 => ?_)
  refine w_region ?_
  refine w_box (v := .agg #[.int _ _, .int _ _]) (cs := [_, _]) want_none rfl rfl rfl hs (fun b3 w4 hs5 => ?_)
  refine w_alloc (cs := [_, _]) want_none Try.zeroValue34 rfl hs5 (fun b6 w7 hs8 => ?_)
  refine w_nil ?_
  refine q_then (hK1 _ _ ?_)
  refine w_seq (fun K10 hK9 => ?_)
  refine w_region ?_
  refine w_pure want_none (y_fieldAddr (o := 0) (i := 0) Try.underlying34 rfl Try.sizeOf3 rfl rfl rfl) rfl ?_
  refine w_pure want_none (y_load1 Try.isAgg3 hs8 rfl rfl (ats_own (i := 1) (vs := [_]) rfl rfl)) rfl ?_
  refine w_pure want_none (y_move (v := .int _ _) rfl rfl) rfl ?_
  refine w_pure want_none (y_min2 rfl rfl rfl rfl) rfl ?_
  refine w_pure want_none (y_fieldAddr (o := 1) (i := 1) Try.underlying34 rfl Try.sizeOf3 rfl rfl rfl) rfl ?_
  refine w_pure want_none (y_load1 Try.isAgg3 hs8 rfl rfl (ats_own (i := 1) (vs := [_]) rfl rfl)) rfl ?_
  refine w_pure want_none (y_move (v := .int _ _) rfl rfl) rfl ?_
  refine w_pure want_none (y_max2 rfl rfl rfl rfl) rfl ?_
  refine w_pure want_none (y_build (ps := [(0, _), (1, _)]) (pv := [(0, .int _ _), (1, .int _ _)]) rfl rfl (fun w => Try_Ya_fb6 _ _ w)) rfl ?_
  refine w_store (i := 0) (v := .agg #[.int _ _, .int _ _]) (vs := [_, _]) want_none Try.sizeOf34 rfl rfl rfl rfl rfl (by simp [Value.oneCell']) hs8 rfl (Nat.le_of_ble_eq_true rfl) (fun w11 hs12 => ?_)
  refine w_nil ?_
  refine q_then (hK9 _ _ ?_)
  refine w_ret ?_
  refine q_ret (l := [.cell 4 34]) (vs := [_]) rfl ⟨⟨rfl, _, rfl, run_loadVarN (vs := [_, _]) Try.isAgg34 Try.sizeOf34 hs12 (ats_own (i := 0) (vs := [_, _]) rfl rfl)⟩, trivial⟩ ?_
  exact ⟨rfl, hs12.tail.tail⟩

theorem c74 {w0 w : World} {F : List (Nat × Obj)} (a : Option Addr) (c : Nat) (ws : List (List Int)) (vs : List Value) (hsl : Sl w0 F a 1 (vs.map fun v => [v])) (hel : EL w0 F vs ws) (hwl : ws.length ≤ 4096) (h0 : 0 < ws.length) (b : Nat) (hb : ∀ h ∈ ws, b < h.length) (hs : St w0 w F) :
  Con Try.prog 74 [.slice a ws.length c, .int .i64 (b : Int)] w fun v w' => v = .agg #[.int .i64 (spanR b ws).1, .int .i64 (spanR b ws).2] ∧ St w0 w' F := by
  refine con_of_wc (n := 36) Try.func74 rfl rfl (Nat.le_of_ble_eq_true rfl) ?_
  obtain ⟨b0, o0, e0, q0, ha, hx0, hsx0, _⟩ := el_at hsl hel h0
  subst ha
  have hb0 := hb _ (List.getElem_mem h0)
  obtain ⟨c0, p0, he0, hy0⟩ := sl_ints hsx0 hb0
  subst he0
  refine w_seq (fun K2 hK1 => ?_)
  refine w_region ?_
  refine w_alloc (cs := [_, _]) want_none Try.zeroValue34 rfl hs (fun b3 w4 hs5 => ?_)
  refine w_nil ?_
  refine q_then (hK1 _ _ ?_)
  refine w_seq (fun K7 hK6 => ?_)
  refine w_draw [14] [(0, 0), (1, 0), (2, 1), (3, 0), (4, 0), (5, 1), (6, 0), (7, 0), (8, 1), (9, 0), (10, 0), (11, 1), (12, 0), (13, 2), (14, 3)] Try_mo (drawOK_of (by kernel_rfl)) hs5 (fun w8 hs9 => ?_)
  refine d_any rfl want_none rfl (fun _ => (y_move (v := .slice _ _ _) rfl rfl)) ?_
  refine d_any rfl want_none rfl (fun _ => (y_indexS Try.underlying64 Try.sizeOf37 rfl rfl rfl rfl (i := 0) rfl (by omega))) ?_
  refine d_take rfl want_none rfl hs9 (fun _ hq => (y_load1 Try.isAgg37 hq.tail rfl rfl hx0)) ?_
  refine d_any rfl want_none rfl (fun _ => (y_move (v := .int _ _) rfl rfl)) ?_
  refine d_any rfl want_none rfl (fun _ => (y_indexS Try.underlying37 Try.sizeOf3 rfl rfl rfl rfl (i := b) rfl hb0)) ?_
  refine d_take rfl want_none rfl hs9 (fun _ hq => (y_load1 Try.isAgg3 hq.tail rfl rfl hy0)) ?_
  refine d_any rfl want_none rfl (fun _ => (y_move (v := .slice _ _ _) rfl rfl)) ?_
  refine d_any rfl want_none rfl (fun _ => (y_indexS Try.underlying64 Try.sizeOf37 rfl rfl rfl rfl (i := 0) rfl (by omega))) ?_
  refine d_take rfl want_none rfl hs9 (fun _ hq => (y_load1 Try.isAgg37 hq.tail rfl rfl hx0)) ?_
  refine d_any rfl want_none rfl (fun _ => (y_move (v := .int _ _) rfl rfl)) ?_
  refine d_any rfl want_none rfl (fun _ => (y_indexS Try.underlying37 Try.sizeOf3 rfl rfl rfl rfl (i := b) rfl hb0)) ?_
  refine d_take rfl want_none rfl hs9 (fun _ hq => (y_load1 Try.isAgg3 hq.tail rfl rfl hy0)) ?_
  refine d_any rfl want_none rfl (fun _ => (y_build (ps := [(0, _), (1, _)]) (pv := [(0, .int _ _), (1, .int _ _)]) rfl rfl (fun w => Try_Ya_fb6 _ _ w))) ?_
  refine d_eff rfl ?_
  refine w_alloc (cs := [_, _]) want_none Try.zeroValue34 rfl hs9 (fun b10 w11 hs12 => ?_)
  refine w_nil ?_
  refine qn ⟨hs12.tail, ?_⟩
  refine d_late rfl ?_
  refine w_store (i := 0) (v := .agg #[.int _ _, .int _ _]) (vs := [_, _]) want_none Try.sizeOf34 rfl rfl rfl rfl rfl (by simp [Value.oneCell']) hs12 rfl (Nat.le_of_ble_eq_true rfl) (fun w13 hs14 => ?_)
  refine w_nil ?_
  refine qn ?_
  refine d_nil ?_
  refine q_then (hK6 _ _ ?_)
  refine w_seq (fun K16 hK15 => ?_)
  refine w_seq (fun K18 hK17 => ?_)
  refine w_region ?_
  refine w_pure want_none (y_assign (v := _) rfl rfl) rfl ?_
  refine w_nil ?_
  refine q_then (hK17 _ _ ?_)
  refine w_block ?_
  refine w_loop [6, 20, 21, 22, 23, 24, 25, 26, 27, 28, 29, 30, 31, 32, 33, 34] [6] (fun k vs0 w => ∃ i : Nat, vs0 = [.int .i64 i] ∧ 1 ≤ i ∧ i ≤ ws.length ∧ k = ws.length - i ∧ St w0 w ((b10, blk 34 [.int .i64 (spanR b (ws.take i)).1, .int .i64 (spanR b (ws.take i)).2]) :: (b3, blk 34 [.int .i64 0, .int .i64 0]) :: F)) (ws.length - 1) ?_ ?_
  ·
   exact ⟨1, rfl, by omega, by omega, by omega, by rw [spanR_one h0, at_get hb0]; exact hs14⟩
  ·
   intro k vs μ w21 hI K20 hN19
   obtain ⟨i, rfl, hi1, hia, rfl, hs⟩ := hI
   refine w_seq (fun K23 hK22 => ?_)
   refine w_seq (fun K25 hK24 => ?_)
   refine w_region ?_
   refine w_pure want_none (y_move (v := .int _ _) rfl rfl) rfl ?_
   refine w_pure want_none (y_move (v := .slice _ _ _) rfl rfl) rfl ?_
   refine w_pure want_none (y_lenS Try.underlying64 rfl rfl) rfl ?_
   refine w_pure want_none (y_lss rfl rfl rfl rfl) rfl ?_
   refine w_nil ?_
   refine q_then (hK24 _ _ ?_)
   refine w_cond rfl rfl (fun h26 => ?_) (fun h26 => ?_)
   ·
    try simp only [Bool.not_eq_true', Bool.not_eq_false', decide_eq_true_eq, decide_eq_false_iff_not, Int.not_lt, Int.not_le] at h26
    refine w_skip ?_
    refine q_then (hK22 _ _ ?_)
    refine w_seq (fun K28 hK27 => ?_)
    refine w_block ?_
    have hi2 : i < ws.length := by omega
    obtain ⟨bx, ox, e2, q2, ha, hx, hsx, _⟩ := el_at hsl hel hi2
    cases ha
    have hbi := hb _ (List.getElem_mem hi2)
    obtain ⟨c1, p1, he1, hy⟩ := sl_ints hsx hbi
    subst he1
    refine w_draw [9] [(0, 1), (1, 0), (2, 0), (3, 0), (4, 1), (5, 0), (6, 0), (7, 1), (8, 2), (9, 3)] Try_mo (drawOK_of (by kernel_rfl)) hs (fun w29 hs30 => ?_)
    refine d_take rfl want_none rfl hs30 (fun _ hq => (y_loadN (vs := [_, _]) Try.isAgg34 Try.sizeOf34 hq rfl rfl (ats_own (i := 0) (vs := [_, _]) rfl rfl))) ?_
    refine d_any rfl want_none rfl (fun _ => (y_move (v := .slice _ _ _) rfl rfl)) ?_
    refine d_any rfl want_none rfl (fun _ => (y_move (v := .int _ _) rfl rfl)) ?_
    refine d_any rfl want_none rfl (fun _ => (y_indexS Try.underlying64 Try.sizeOf37 rfl rfl rfl rfl (i := _) rfl (by omega))) ?_
    refine d_take rfl want_none rfl hs30 (fun _ hq => (y_load1 Try.isAgg37 hq.tail.tail rfl rfl hx)) ?_
    refine d_any rfl want_none rfl (fun _ => (y_move (v := .int _ _) rfl rfl)) ?_
    refine d_any rfl want_none rfl (fun _ => (y_indexS Try.underlying37 Try.sizeOf3 rfl rfl rfl rfl (i := b) rfl hbi)) ?_
    refine d_take rfl want_none rfl hs30 (fun _ hq => (y_load1 Try.isAgg3 hq.tail.tail rfl rfl hy)) ?_
    refine d_eff rfl ?_
    refine w_call want_none Try.call81 rfl rfl rfl rfl (c81 _ _ _ hs30) ?_
    rintro _ w32 ⟨rfl, hs33⟩
    refine w_nil ?_
    refine qn ⟨hs33, ?_⟩
    refine d_late rfl ?_
    refine w_store (i := 0) (v := .agg #[.int _ _, .int _ _]) (vs := [_, _]) want_none Try.sizeOf34 rfl rfl rfl rfl rfl (by simp [Value.oneCell']) hs33 rfl (Nat.le_of_ble_eq_true rfl) (fun w34 hs35 => ?_)
    refine w_nil ?_
    refine qn ?_
    refine d_nil ?_
    refine q_blk_normal ?_
    refine q_then (hK27 _ _ ?_)
    refine w_region ?_
    refine w_pure want_none (y_move (v := .int _ _) rfl rfl) rfl ?_
    refine w_pure want_none (y_add rfl rfl rfl rfl (by omega) (by omega)) rfl ?_
    refine w_pure want_none (y_assign (v := .int _ _) rfl rfl) rfl ?_
    refine w_nil ?_
    refine q_then (hN19 _ _ (Nx.intro (ws.length - (i + 1)) (by omega) (by repeat (first | exact agree_mix | refine agree_upd rfl ?_ | refine agree_updL rfl ?_ _ | refine agree_mixin rfl ?_)) ?_))
    exact ⟨i + 1, rfl, by omega, by omega, rfl, by rw [spanR_step hi1 hi2, at_get hbi]; exact hs35⟩
   ·
    try simp only [Bool.not_eq_true', Bool.not_eq_false', decide_eq_true_eq, decide_eq_false_iff_not, Int.not_lt, Int.not_le] at h26
    refine w_exit ?_
    refine q_then_exit ?_
    refine q_then_exit ?_
    refine q_blk_this ?_
    refine q_then (hK15 _ _ ?_)
    refine w_seq (fun K37 hK36 => ?_)
    refine w_region ?_
    refine w_pure want_none (y_loadN (vs := [_, _]) Try.isAgg34 Try.sizeOf34 hs rfl rfl (ats_own (i := 0) (vs := [_, _]) rfl rfl)) rfl ?_
    refine w_store (i := 1) (v := .agg #[.int _ _, .int _ _]) (vs := [_, _]) want_none Try.sizeOf34 rfl rfl rfl rfl rfl (by simp [Value.oneCell']) hs rfl (Nat.le_of_ble_eq_true rfl) (fun w38 hs39 => ?_)
    refine w_nil ?_
    refine q_then (hK36 _ _ ?_)
    refine w_ret ?_
    refine q_ret (l := [.cell 4 34]) (vs := [_]) rfl ⟨⟨rfl, _, rfl, run_loadVarN (vs := [_, _]) Try.isAgg34 Try.sizeOf34 hs39 (ats_own (i := 1) (vs := [_, _]) rfl rfl)⟩, trivial⟩ ?_
    have hil : i = ws.length := by omega
    subst hil
    exact ⟨by rw [List.take_length]; rfl, hs39.tail.tail⟩

theorem c76 {w0 w : World} {F : List (Nat × Obj)} (l : Lot) (p : At3) (hm : LIn w0 F l p) (hok : l.Ok) (a : Option Addr) (c : Nat) (ws : List (List Int)) (vs : List Value) (hsl : Sl w0 F a 1 (vs.map fun v => [v])) (hel : EL w0 F vs ws) (hwl : ws.length ≤ 4096) (b : Nat) (hb2 : b < l.bunches.length) (hb : ∀ h ∈ ws, b < h.length) (g : Int) (hs : St w0 w F) :
  Con Try.prog 76 [.agg (l.cells p).toArray, .slice a ws.length c, .int .i64 (b : Int), .int .i64 g] w fun v w' => v = .bool (couldR l ws b g) ∧ St w0 w' F := by
  refine con_of_wc (n := 33) Try.func76 rfl rfl (Nat.le_of_ble_eq_true rfl) ?_
  refine w_seq (fun K2 hK1 => ?_)
  refine w_region ?_
  refine w_box (v := .agg #[.slice _ _ _, .slice _ _ _, .slice _ _ _]) (cs := [_, _, _]) want_none rfl rfl rfl hs (fun b3 w4 hs5 => ?_)
  refine w_pure want_none (y_assign (v := _) rfl rfl) rfl ?_
  refine w_nil ?_
  refine q_then (hK1 _ _ ?_)
  refine w_seq (fun K7 hK6 => ?_)
  refine w_region ?_
  refine w_pure want_none (y_assign (v := _) rfl rfl) rfl ?_
  refine w_nil ?_
  refine q_then (hK6 _ _ ?_)
  refine w_seq (fun K9 hK8 => ?_)
  refine w_seq (fun K11 hK10 => ?_)
  refine w_region ?_
  refine w_pure want_none (y_assign (v := _) rfl rfl) rfl ?_
  refine w_nil ?_
  refine q_then (hK10 _ _ ?_)
  refine w_block ?_
  refine w_loop [9, 10, 11, 12, 13, 14, 15, 16, 17, 18, 19, 20, 21, 22, 23, 24, 25, 26, 27, 28, 29, 30, 31] [9, 10] (fun k vs0 w => ∃ i : Nat, vs0 = [.bool (couldR l (ws.take i) b g), .int .i64 i] ∧ i ≤ ws.length ∧ k = ws.length - i ∧ St w0 w ((b3, blk 26 (l.cells p)) :: F)) (ws.length) ?_ ?_
  ·
   exact ⟨0, rfl, by omega, by omega, hs5⟩
  ·
   intro k vs μ w14 hI K13 hN12
   obtain ⟨i, rfl, hia, rfl, hs⟩ := hI
   generalize hcd : couldR l (ws.take i) b g = cd
   refine w_seq (fun K16 hK15 => ?_)
   refine w_seq (fun K18 hK17 => ?_)
   refine w_region ?_
   refine w_pure want_none (y_move (v := .int _ _) rfl rfl) rfl ?_
   refine w_pure want_none (y_move (v := .slice _ _ _) rfl rfl) rfl ?_
   refine w_pure want_none (y_lenS Try.underlying64 rfl rfl) rfl ?_
   refine w_pure want_none (y_lss rfl rfl rfl rfl) rfl ?_
   refine w_nil ?_
   refine q_then (hK17 _ _ ?_)
   refine w_cond rfl rfl (fun h19 => ?_) (fun h19 => ?_)
   ·
    try simp only [Bool.not_eq_true', Bool.not_eq_false', decide_eq_true_eq, decide_eq_false_iff_not, Int.not_lt, Int.not_le] at h19
    refine w_skip ?_
    refine q_then (hK15 _ _ ?_)
    refine w_seq (fun K21 hK20 => ?_)
    refine w_block ?_
    have hi2 : i < ws.length := by omega
    obtain ⟨bx, ox, e2, q2, ha, hx, hsx, _⟩ := el_at hsl hel hi2
    subst ha
    have hbi := hb _ (List.getElem_mem hi2)
    obtain ⟨c1, p1, he1, hy⟩ := sl_ints hsx hbi
    subst he1
    have hgl := gradesL_len2 hok hb2 (at_ ws[i] b)
    refine w_draw [] [(0, 0), (1, 0), (2, 1), (3, 0), (4, 0), (5, 0), (6, 0), (7, 1), (8, 0), (9, 0), (10, 1), (12, 0), (11, 2), (13, 2), (14, 0), (15, 0)] Try_mo (drawOK_of (by kernel_rfl)) hs (fun w22 hs23 => ?_)
    refine d_any rfl want_none rfl (fun _ => (y_move (v := .bool _) rfl rfl)) ?_
    refine d_any rfl want_none rfl (fun _ => (y_move (v := .bool _) rfl rfl)) ?_
    refine d_split (fun h24 => ?_) (fun h24 => ?_)
    ·
     subst h24
     refine d_skip1 rfl rfl rfl rfl hs23 ?_
     refine d_skip rfl rfl rfl rfl ?_
     refine d_skip rfl rfl rfl rfl ?_
     refine d_skip rfl rfl rfl rfl ?_
     refine d_skip rfl rfl rfl rfl ?_
     refine d_skip1 rfl rfl rfl rfl hs23 ?_
     refine d_skip rfl rfl rfl rfl ?_
     refine d_skip rfl rfl rfl rfl ?_
     refine d_skip1 rfl rfl rfl rfl hs23 ?_
     refine d_skip rfl rfl rfl rfl ?_
     refine d_eff rfl ?_
     refine w_skipop rfl rfl rfl ?_
     refine w_nil ?_
     refine qn ⟨hs23, ?_⟩
     refine d_eff rfl ?_
     refine w_skipop rfl rfl rfl ?_
     refine w_nil ?_
     refine qn ⟨hs23, ?_⟩
     refine d_any rfl want_none rfl (fun _ => (y_pickT (v := _) rfl rfl rfl rfl)) ?_
     refine d_any rfl want_none rfl (fun _ => (y_assign (v := .bool _) rfl rfl)) ?_
     refine d_nil ?_
     refine q_blk_normal ?_
     refine q_then (hK20 _ _ ?_)
     refine w_region ?_
     refine w_pure want_none (y_move (v := .int _ _) rfl rfl) rfl ?_
     refine w_pure want_none (y_add rfl rfl rfl rfl (by omega) (by omega)) rfl ?_
     refine w_pure want_none (y_assign (v := .int _ _) rfl rfl) rfl ?_
     refine w_nil ?_
     refine q_then (hN12 _ _ (Nx.intro (ws.length - (i + 1)) (by omega) (by repeat (first | exact agree_mix | refine agree_upd rfl ?_ | refine agree_updL rfl ?_ _ | refine agree_mixin rfl ?_)) ?_))
     first
       | exact ⟨i + 1, bi2 (by rw [could_step hi2, hcd]; rfl) rfl, by omega, rfl, hs23⟩
    ·
     subst h24
     refine d_take rfl (want_yes rfl rfl rfl) rfl hs23 (fun _ hq => (y_loadN (vs := [_, _, _]) Try.isAgg26 Try.sizeOf26 hq rfl rfl (ats_own (i := 0) (vs := [_, _, _]) rfl rfl))) ?_
     refine d_any rfl (want_yes rfl rfl rfl) rfl (fun _ => (y_move (v := .int _ _) rfl rfl)) ?_
     refine d_any rfl (want_yes rfl rfl rfl) rfl (fun _ => (y_move (v := .slice _ _ _) rfl rfl)) ?_
     refine d_any rfl (want_yes rfl rfl rfl) rfl (fun _ => (y_move (v := .int _ _) rfl rfl)) ?_
     refine d_any rfl (want_yes rfl rfl rfl) rfl (fun _ => (y_indexS Try.underlying64 Try.sizeOf37 rfl rfl rfl rfl (i := _) rfl (by omega))) ?_
     refine d_take rfl (want_yes rfl rfl rfl) rfl hs23 (fun _ hq => (y_load1 Try.isAgg37 hq.tail rfl rfl hx)) ?_
     refine d_any rfl (want_yes rfl rfl rfl) rfl (fun _ => (y_move (v := .int _ _) rfl rfl)) ?_
     refine d_any rfl (want_yes rfl rfl rfl) rfl (fun _ => (y_indexS Try.underlying37 Try.sizeOf3 rfl rfl rfl rfl (i := b) rfl hbi)) ?_
     refine d_take rfl (want_yes rfl rfl rfl) rfl hs23 (fun _ hq => (y_load1 Try.isAgg3 hq.tail rfl rfl hy)) ?_
     refine d_any rfl (want_yes rfl rfl rfl) rfl (fun _ => (y_move (v := .int _ _) rfl rfl)) ?_
     refine d_eff rfl ?_
     refine w_call (want_yes rfl rfl rfl) Try.call80 rfl rfl rfl rfl ((c80 l p hm.cons hok b hb2 (ws[i]'hi2)[b] hs23).mono (fun v w2 h => by rw [← at_get hbi] at h; exact h)) ?_
     rintro _ w26 ⟨GB, hownG, hs27⟩
     replace hs27 := (show St _ _ (GB ++ (_ :: F)) from hs27)
     obtain ⟨aG, cG, rfl, hslG, _, _⟩ := own_ints (w0 := w0) hownG
     refine w_nil ?_
     refine qn ⟨hs27.drop, ?_⟩
     refine d_eff rfl ?_
     refine w_call (want_yes rfl rfl rfl) Try.call43 rfl rfl rfl rfl (c43 _ _ (gradesL l.grades (at_ (ws[i]'hi2) b) (scarsOf l b)) (by omega) hslG.top _ hs27) ?_
     rintro _ w29 ⟨rfl, hs30⟩
     refine w_nil ?_
     refine qn ⟨hs30.drop, ?_⟩
     refine d_any rfl want_none rfl (fun _ => (y_pickF (v := .bool _) rfl rfl rfl rfl)) ?_
     refine d_any rfl want_none rfl (fun _ => (y_assign (v := .bool _) rfl rfl)) ?_
     refine d_nil ?_
     refine q_blk_normal ?_
     refine q_then (hK20 _ _ ?_)
     refine w_region ?_
     refine w_pure want_none (y_move (v := .int _ _) rfl rfl) rfl ?_
     refine w_pure want_none (y_add rfl rfl rfl rfl (by omega) (by omega)) rfl ?_
     refine w_pure want_none (y_assign (v := .int _ _) rfl rfl) rfl ?_
     refine w_nil ?_
     refine q_then (hN12 _ _ (Nx.intro (ws.length - (i + 1)) (by omega) (by repeat (first | exact agree_mix | refine agree_upd rfl ?_ | refine agree_updL rfl ?_ _ | refine agree_mixin rfl ?_)) ?_))
     first
       | exact ⟨i + 1, bi2 (by rw [could_step hi2, hcd]; rfl) rfl, by omega, rfl, hs30.drop⟩
   ·
    try simp only [Bool.not_eq_true', Bool.not_eq_false', decide_eq_true_eq, decide_eq_false_iff_not, Int.not_lt, Int.not_le] at h19
    refine w_exit ?_
    refine q_then_exit ?_
    refine q_then_exit ?_
    refine q_blk_this ?_
    refine q_then (hK8 _ _ ?_)
    refine w_seq (fun K32 hK31 => ?_)
    refine w_region ?_
    refine w_pure want_none (y_move (v := .bool _) rfl rfl) rfl ?_
    refine w_pure want_none (y_assign (v := .bool _) rfl rfl) rfl ?_
    refine w_nil ?_
    refine q_then (hK31 _ _ ?_)
    refine w_ret ?_
    refine q_ret (l := [.tmp 8]) (vs := [_]) rfl ⟨⟨rfl, show _ = (.bool _ : Value) from rfl⟩, trivial⟩ ?_
    have hil : i = ws.length := by omega
    subst hil
    rw [List.take_length] at hcd
    exact ⟨congrArg Value.bool hcd.symm, hs.tail⟩

theorem c83 {w0 w : World} {F : List (Nat × Obj)} (l : Lot) (p : At3) (hm : LIn w0 F l p) (hok : l.Ok) (a : Option Addr) (c : Nat) (ws : List (List Int)) (vs : List Value) (hsl : Sl w0 F a 1 (vs.map fun v => [v])) (hel : EL w0 F vs ws) (hwl : ws.length ≤ 4096) (b : Nat) (hb2 : b < l.bunches.length) (hb : ∀ h ∈ ws, b < h.length) (g : Int) (hs : St w0 w F) :
  Con Try.prog 83 [.agg (l.cells p).toArray, .slice a ws.length c, .int .i64 (b : Int), .int .i64 g] w fun v w' => v = .bool (mustR l ws b g) ∧ St w0 w' F := by
  refine con_of_wc (n := 42) Try.func83 rfl rfl (Nat.le_of_ble_eq_true rfl) ?_
  refine w_seq (fun K2 hK1 => ?_)
  refine w_region ?_
  refine w_box (v := .agg #[.slice _ _ _, .slice _ _ _, .slice _ _ _]) (cs := [_, _, _]) want_none rfl rfl rfl hs (fun b3 w4 hs5 => ?_)
  refine w_pure want_none (y_assign (v := _) rfl rfl) rfl ?_
  refine w_nil ?_
  refine q_then (hK1 _ _ ?_)
  refine w_seq (fun K7 hK6 => ?_)
  refine w_region ?_
  refine w_pure want_none (y_assign (v := _) rfl rfl) rfl ?_
  refine w_nil ?_
  refine q_then (hK6 _ _ ?_)
  refine w_seq (fun K9 hK8 => ?_)
  refine w_seq (fun K11 hK10 => ?_)
  refine w_region ?_
  refine w_pure want_none (y_assign (v := _) rfl rfl) rfl ?_
  refine w_nil ?_
  refine q_then (hK10 _ _ ?_)
  refine w_block ?_
  refine w_loop [9, 10, 11, 12, 13, 14, 15, 16, 17, 18, 19, 20, 21, 22, 23, 24, 25, 26, 27, 28, 29, 30, 31, 32, 33, 34, 35, 36, 37, 38, 39, 40] [9, 10] (fun k vs0 w => ∃ i : Nat, vs0 = [.bool (mustR l (ws.take i) b g), .int .i64 i] ∧ i ≤ ws.length ∧ k = ws.length - i ∧ St w0 w ((b3, blk 26 (l.cells p)) :: F)) (ws.length) ?_ ?_
  ·
   exact ⟨0, rfl, by omega, by omega, hs5⟩
  ·
   intro k vs μ w14 hI K13 hN12
   obtain ⟨i, rfl, hia, rfl, hs⟩ := hI
   generalize hcd : mustR l (ws.take i) b g = cd
   refine w_seq (fun K16 hK15 => ?_)
   refine w_seq (fun K18 hK17 => ?_)
   refine w_region ?_
   refine w_pure want_none (y_move (v := .int _ _) rfl rfl) rfl ?_
   refine w_pure want_none (y_move (v := .slice _ _ _) rfl rfl) rfl ?_
   refine w_pure want_none (y_lenS Try.underlying64 rfl rfl) rfl ?_
   refine w_pure want_none (y_lss rfl rfl rfl rfl) rfl ?_
   refine w_nil ?_
   refine q_then (hK17 _ _ ?_)
   refine w_cond rfl rfl (fun h19 => ?_) (fun h19 => ?_)
   ·
    try simp only [Bool.not_eq_true', Bool.not_eq_false', decide_eq_true_eq, decide_eq_false_iff_not, Int.not_lt, Int.not_le] at h19
    refine w_skip ?_
    refine q_then (hK15 _ _ ?_)
    refine w_seq (fun K21 hK20 => ?_)
    refine w_block ?_
    refine w_seq (fun K23 hK22 => ?_)
    have hi2 : i < ws.length := by omega
    obtain ⟨bx, ox, e2, q2, ha, hx, hsx, _⟩ := el_at hsl hel hi2
    subst ha
    have hbi := hb _ (List.getElem_mem hi2)
    obtain ⟨c1, p1, he1, hy⟩ := sl_ints hsx hbi
    subst he1
    have hgl := gradesL_len2 hok hb2 (at_ ws[i] b)
    refine w_draw [] [(0, 1), (1, 0), (2, 0), (3, 0), (4, 0), (5, 1), (6, 0), (7, 0), (8, 1), (9, 2), (10, 0)] Try_mo (drawOK_of (by kernel_rfl)) hs (fun w24 hs25 => ?_)
    refine d_take rfl want_none rfl hs25 (fun _ hq => (y_loadN (vs := [_, _, _]) Try.isAgg26 Try.sizeOf26 hq rfl rfl (ats_own (i := 0) (vs := [_, _, _]) rfl rfl))) ?_
    refine d_any rfl want_none rfl (fun _ => (y_move (v := .int _ _) rfl rfl)) ?_
    refine d_any rfl want_none rfl (fun _ => (y_move (v := .slice _ _ _) rfl rfl)) ?_
    refine d_any rfl want_none rfl (fun _ => (y_move (v := .int _ _) rfl rfl)) ?_
    refine d_any rfl want_none rfl (fun _ => (y_indexS Try.underlying64 Try.sizeOf37 rfl rfl rfl rfl (i := _) rfl (by omega))) ?_
    refine d_take rfl want_none rfl hs25 (fun _ hq => (y_load1 Try.isAgg37 hq.tail rfl rfl hx)) ?_
    refine d_any rfl want_none rfl (fun _ => (y_move (v := .int _ _) rfl rfl)) ?_
    refine d_any rfl want_none rfl (fun _ => (y_indexS Try.underlying37 Try.sizeOf3 rfl rfl rfl rfl (i := b) rfl hbi)) ?_
    refine d_take rfl want_none rfl hs25 (fun _ hq => (y_load1 Try.isAgg3 hq.tail rfl rfl hy)) ?_
    refine d_eff rfl ?_
    refine w_call want_none Try.call80 rfl rfl rfl rfl ((c80 l p hm.cons hok b hb2 (ws[i]'hi2)[b] hs25).mono (fun v w2 h => by rw [← at_get hbi] at h; exact h)) ?_
    rintro _ w27 ⟨GB, hownG, hs28⟩
    replace hs28 := (show St _ _ (GB ++ (_ :: F)) from hs28)
    obtain ⟨aG, cG, rfl, hslG, _, _⟩ := own_ints (w0 := w0) hownG
    refine w_nil ?_
    refine qn ⟨hs28.drop, ?_⟩
    refine d_any rfl want_none rfl (fun _ => (y_assign (v := .slice _ _ _) rfl rfl)) ?_
    refine d_nil ?_
    refine q_then (hK22 _ _ ?_)
    refine w_region ?_
    refine w_pure want_none (y_move (v := .bool _) rfl rfl) rfl ?_
    refine w_pure want_none (y_move (v := .bool _) rfl rfl) rfl ?_
    refine w_split (fun h29 => ?_) (fun h29 => ?_)
    ·
     subst h29
     refine w_pure (want_yes rfl rfl rfl) (y_move (v := .slice _ _ _) rfl rfl) rfl ?_
     refine w_pure (want_yes rfl rfl rfl) (y_lenS Try.underlying37 rfl rfl) rfl ?_
     refine w_pure (want_yes rfl rfl rfl) (y_eql rfl rfl rfl rfl) rfl ?_
     refine w_pure want_none (y_pickT (v := .bool _) rfl rfl rfl rfl) rfl ?_
     refine w_pure want_none (y_move (v := .bool _) rfl rfl) rfl ?_
     refine w_split (fun h30 => ?_) (fun h30 => ?_)
     ·
      try simp only [Bool.not_eq_true', Bool.not_eq_false', decide_eq_true_eq, decide_eq_false_iff_not, Int.not_lt, Int.not_le] at h30
      refine w_pure (want_yes rfl rfl rfl) (y_move (v := .slice _ _ _) rfl rfl) rfl ?_
      obtain ⟨bz, oz, hbz, hz0⟩ := sl_ints hslG (i := 0) (by omega)
      subst hbz
      have hz := hz0.top (F := (b3, blk 26 (l.cells p)) :: F)
      refine w_pure (want_yes rfl rfl rfl) (y_indexS Try.underlying37 Try.sizeOf3 rfl rfl rfl rfl (i := 0) rfl (by omega)) rfl ?_
      refine w_pure (want_yes rfl rfl rfl) (y_load1 Try.isAgg3 hs28 rfl rfl hz) rfl ?_
      refine w_pure (want_yes rfl rfl rfl) (y_move (v := .int _ _) rfl rfl) rfl ?_
      refine w_pure (want_yes rfl rfl rfl) (y_eql rfl rfl rfl rfl) rfl ?_
      refine w_pure want_none (y_pickT (v := .bool _) rfl rfl rfl rfl) rfl ?_
      refine w_pure want_none (y_assign (v := .bool _) rfl rfl) rfl ?_
      refine w_nil ?_
      refine q_blk_normal ?_
      refine q_then (hK20 _ _ ?_)
      refine w_region ?_
      refine w_pure want_none (y_move (v := .int _ _) rfl rfl) rfl ?_
      refine w_pure want_none (y_add rfl rfl rfl rfl (by omega) (by omega)) rfl ?_
      refine w_pure want_none (y_assign (v := .int _ _) rfl rfl) rfl ?_
      refine w_nil ?_
      refine q_then (hN12 _ _ (Nx.intro (ws.length - (i + 1)) (by omega) (by repeat (first | exact agree_mix | refine agree_upd rfl ?_ | refine agree_updL rfl ?_ _ | refine agree_mixin rfl ?_)) ?_))
      first
        | exact ⟨i + 1, bi2 (by rw [must_step hi2, hcd, only_dec (by omega)]; rfl) rfl, by omega, rfl, hs28.drop⟩
        | exact ⟨i + 1, bi2 (by rw [must_step hi2, hcd, only_not (by omega)]; rfl) rfl, by omega, rfl, hs28.drop⟩
        | exact ⟨i + 1, bi2 (by rw [must_step hi2, hcd]; rfl) rfl, by omega, rfl, hs28.drop⟩
     ·
      try simp only [Bool.not_eq_true', Bool.not_eq_false', decide_eq_true_eq, decide_eq_false_iff_not, Int.not_lt, Int.not_le] at h30
      refine w_skipop rfl rfl rfl ?_
      refine w_skipop rfl rfl rfl ?_
      refine w_skipop rfl rfl rfl ?_
      refine w_skipop rfl rfl rfl ?_
      refine w_skipop rfl rfl rfl ?_
      refine w_pure want_none (y_pickF (v := _) rfl rfl rfl rfl) rfl ?_
      refine w_pure want_none (y_assign (v := .bool _) rfl rfl) rfl ?_
      refine w_nil ?_
      refine q_blk_normal ?_
      refine q_then (hK20 _ _ ?_)
      refine w_region ?_
      refine w_pure want_none (y_move (v := .int _ _) rfl rfl) rfl ?_
      refine w_pure want_none (y_add rfl rfl rfl rfl (by omega) (by omega)) rfl ?_
      refine w_pure want_none (y_assign (v := .int _ _) rfl rfl) rfl ?_
      refine w_nil ?_
      refine q_then (hN12 _ _ (Nx.intro (ws.length - (i + 1)) (by omega) (by repeat (first | exact agree_mix | refine agree_upd rfl ?_ | refine agree_updL rfl ?_ _ | refine agree_mixin rfl ?_)) ?_))
      first
        | exact ⟨i + 1, bi2 (by rw [must_step hi2, hcd, only_dec (by omega)]; rfl) rfl, by omega, rfl, hs28.drop⟩
        | exact ⟨i + 1, bi2 (by rw [must_step hi2, hcd, only_not (by omega)]; rfl) rfl, by omega, rfl, hs28.drop⟩
        | exact ⟨i + 1, bi2 (by rw [must_step hi2, hcd]; rfl) rfl, by omega, rfl, hs28.drop⟩
    ·
     subst h29
     refine w_skipop rfl rfl rfl ?_
     refine w_skipop rfl rfl rfl ?_
     refine w_skipop rfl rfl rfl ?_
     refine w_pure want_none (y_pickF (v := _) rfl rfl rfl rfl) rfl ?_
     refine w_pure want_none (y_move (v := .bool _) rfl rfl) rfl ?_
     refine w_skipop rfl rfl rfl ?_
     refine w_skipop rfl rfl rfl ?_
     refine w_skipop rfl rfl rfl ?_
     refine w_skipop rfl rfl rfl ?_
     refine w_skipop rfl rfl rfl ?_
     refine w_pure want_none (y_pickF (v := _) rfl rfl rfl rfl) rfl ?_
     refine w_pure want_none (y_assign (v := .bool _) rfl rfl) rfl ?_
     refine w_nil ?_
     refine q_blk_normal ?_
     refine q_then (hK20 _ _ ?_)
     refine w_region ?_
     refine w_pure want_none (y_move (v := .int _ _) rfl rfl) rfl ?_
     refine w_pure want_none (y_add rfl rfl rfl rfl (by omega) (by omega)) rfl ?_
     refine w_pure want_none (y_assign (v := .int _ _) rfl rfl) rfl ?_
     refine w_nil ?_
     refine q_then (hN12 _ _ (Nx.intro (ws.length - (i + 1)) (by omega) (by repeat (first | exact agree_mix | refine agree_upd rfl ?_ | refine agree_updL rfl ?_ _ | refine agree_mixin rfl ?_)) ?_))
     first
       | exact ⟨i + 1, bi2 (by rw [must_step hi2, hcd, only_dec (by omega)]; rfl) rfl, by omega, rfl, hs28.drop⟩
       | exact ⟨i + 1, bi2 (by rw [must_step hi2, hcd, only_not (by omega)]; rfl) rfl, by omega, rfl, hs28.drop⟩
       | exact ⟨i + 1, bi2 (by rw [must_step hi2, hcd]; rfl) rfl, by omega, rfl, hs28.drop⟩
   ·
    try simp only [Bool.not_eq_true', Bool.not_eq_false', decide_eq_true_eq, decide_eq_false_iff_not, Int.not_lt, Int.not_le] at h19
    refine w_exit ?_
    refine q_then_exit ?_
    refine q_then_exit ?_
    refine q_blk_this ?_
    refine q_then (hK8 _ _ ?_)
    refine w_seq (fun K32 hK31 => ?_)
    refine w_region ?_
    refine w_pure want_none (y_move (v := .bool _) rfl rfl) rfl ?_
    refine w_pure want_none (y_assign (v := .bool _) rfl rfl) rfl ?_
    refine w_nil ?_
    refine q_then (hK31 _ _ ?_)
    refine w_ret ?_
    refine q_ret (l := [.tmp 8]) (vs := [_]) rfl ⟨⟨rfl, show _ = (.bool _ : Value) from rfl⟩, trivial⟩ ?_
    have hil : i = ws.length := by omega
    subst hil
    rw [List.take_length] at hcd
    exact ⟨congrArg Value.bool hcd.symm, hs.tail⟩

end Go.Proofs
/- Plain words of the hand layer: totals, picks and others over the ways, step by step. No conditions. -/
set_option linter.unusedSimpArgs false
set_option linter.unusedVariables false
namespace Go.Rt.Ha
theorem kE_chk (l : Lot) : kE l (check l).2.2 = enterE l 0 := by
  rw [← kE_enter l 0]
  congr 1
  split <;> omega
theorem sumsR_in {l : Lot} {g : Int} {h : List Int} (hh : ∀ b, 0 ≤ at_ h b ∧ at_ h b ≤ 12) : ∀ k, 0 ≤ (sumsR l g h k).1 ∧ (sumsR l g h k).1 ≤ 12 * k ∧ 0 ≤ (sumsR l g h k).2 ∧ (sumsR l g h k).2 ≤ 12 * k
  | 0 => by simp [sumsR]
  | k + 1 => by
    have ih := sumsR_in (l := l) (g := g) hh k
    have hx := hh k
    simp only [sumsR]
    split
    · split <;> (dsimp only; omega)
    · omega
theorem sumsR_a {l : Lot} {g : Int} {h : List Int} {k : Nat} (e : hasI (gradesL l.grades (at_ h k) (scarsOf l k)) g = true) (e2 : (gradesL l.grades (at_ h k) (scarsOf l k)).length = 1) : sumsR l g h (k + 1) = ((sumsR l g h k).1 + at_ h k, (sumsR l g h k).2 + at_ h k) := by
  simp only [sumsR]; rw [if_pos e, if_pos e2]
theorem sumsR_b {l : Lot} {g : Int} {h : List Int} {k : Nat} (e : hasI (gradesL l.grades (at_ h k) (scarsOf l k)) g = true) (e2 : ¬ (gradesL l.grades (at_ h k) (scarsOf l k)).length = 1) : sumsR l g h (k + 1) = ((sumsR l g h k).1, (sumsR l g h k).2 + at_ h k) := by
  simp only [sumsR]; rw [if_pos e, if_neg e2]
theorem sumsR_c {l : Lot} {g : Int} {h : List Int} {k : Nat} (e : hasI (gradesL l.grades (at_ h k) (scarsOf l k)) g = false) : sumsR l g h (k + 1) = sumsR l g h k := by
  simp only [sumsR]; rw [if_neg (by simp [e])]
theorem totalR_take {l : Lot} {g : Int} {ws : List (List Int)} {i : Nat} (h : i < ws.length) : totalR l g (ws.take (i + 1)) = (min (min (totalR l g (ws.take i)).1 (sumsR l g ws[i] l.bunches.length).1) (sumsR l g ws[i] l.bunches.length).2, max (max (totalR l g (ws.take i)).2 (sumsR l g ws[i] l.bunches.length).1) (sumsR l g ws[i] l.bunches.length).2) := fold_take _ _ h
theorem sureR_yes {l : Lot} {ws : List (List Int)} {i : Nat} (h : mustR l ws i (-1) = true) : sureR l ws (i + 1) = sureR l ws i ++ [(i : Int)] := by simp only [sureR]; rw [if_pos h]
theorem sureR_no {l : Lot} {ws : List (List Int)} {i : Nat} (h : mustR l ws i (-1) = false) : sureR l ws (i + 1) = sureR l ws i := by simp only [sureR]; rw [if_neg (by simp [h]), List.append_nil]
theorem mayR_yes {l : Lot} {ws : List (List Int)} {i : Nat} (h : couldR l ws i (-1) = true) : mayR l ws (i + 1) = mayR l ws i ++ [(i : Int)] := by simp only [mayR]; rw [if_pos h]
theorem mayR_no {l : Lot} {ws : List (List Int)} {i : Nat} (h : couldR l ws i (-1) = false) : mayR l ws (i + 1) = mayR l ws i := by simp only [mayR]; rw [if_neg (by simp [h]), List.append_nil]
theorem sureR_len (l : Lot) (ws : List (List Int)) : ∀ n, (sureR l ws n).length ≤ n
  | 0 => by simp [sureR]
  | n + 1 => by have := sureR_len l ws n; simp only [sureR, List.length_append]; split <;> simp <;> omega
theorem mayR_len (l : Lot) (ws : List (List Int)) : ∀ n, (mayR l ws n).length ≤ n
  | 0 => by simp [mayR]
  | n + 1 => by have := mayR_len l ws n; simp only [mayR, List.length_append]; split <;> simp <;> omega
theorem fitR_yes {l : Lot} {ws : List (List Int)} {g b : Nat} (h : noneTo l ws b g (l.grades.length - (g + 1)) = true) : fitR l ws g (b + 1) = fitR l ws g b ++ [(b : Int)] := by simp only [fitR]; rw [if_pos h]
theorem fitR_no {l : Lot} {ws : List (List Int)} {g b : Nat} (h : noneTo l ws b g (l.grades.length - (g + 1)) = false) : fitR l ws g (b + 1) = fitR l ws g b := by simp only [fitR]; rw [if_neg (by simp [h]), List.append_nil]
theorem fitR_in (l : Lot) (ws : List (List Int)) (g : Nat) : ∀ b, (fitR l ws g b).length ≤ b ∧ ∀ z ∈ fitR l ws g b, 0 ≤ z ∧ z < b
  | 0 => by simp [fitR]
  | b + 1 => by
    have ih := fitR_in l ws g b
    simp only [fitR, List.length_append]
    refine ⟨by split <;> simp <;> omega, fun z hz => ?_⟩
    rcases List.mem_append.1 hz with h | h
    · have := ih.2 z h; omega
    · split at h <;> simp at h
      omega
theorem least_take {ws : List (List Int)} {own : List Int} {i : Nat} (h : i < ws.length) : leastR (ws.take (i + 1)) own = min (leastR (ws.take i) own) (someOf ws[i] own) := fold_take _ _ h
theorem some_take {h own : List Int} {k : Nat} (hk : k < own.length) : someOf h (own.take (k + 1)) = someOf h (own.take k) + at_ h own[k].toNat := by rw [List.take_succ_eq_append_getElem hk, someOf_snoc]
theorem often_yes {b : Nat} {n : Int} {ws : List (List Int)} {i : Nat} (h : i < ws.length) (e : at_ ws[i] b = n) : often b n (ws.take (i + 1)) = often b n (ws.take i) + 1 := by rw [often_take h, if_pos e]
theorem often_no {b : Nat} {n : Int} {ws : List (List Int)} {i : Nat} (h : i < ws.length) (e : ¬ at_ ws[i] b = n) : often b n (ws.take (i + 1)) = often b n (ws.take i) := by rw [often_take h, if_neg e]; omega
theorem most_succ (b : Nat) (ws : List (List Int)) (n : Nat) : mostTo b ws (n + 1) = max (mostTo b ws n) (often b (n : Int) ws) := rfl
theorem nextR_yes {ws : List (List Int)} {k : Nat} (h : (spanR k ws).1 < (spanR k ws).2) (h2 : (nextRTo ws k).1 < 0 ∨ leftW k ws < (nextRTo ws k).2) : nextRTo ws (k + 1) = ((k : Int), leftW k ws) := by simp only [nextRTo]; rw [if_pos ⟨h, h2⟩]
theorem nextR_no {ws : List (List Int)} {k : Nat} (h : ¬ (spanR k ws).1 < (spanR k ws).2 ∨ (¬ (nextRTo ws k).1 < 0 ∧ ¬ leftW k ws < (nextRTo ws k).2)) : nextRTo ws (k + 1) = nextRTo ws k := by simp only [nextRTo]; rw [if_neg (by rintro ⟨h1, h2⟩; omega)]
/-! ### Picks -/
def pickC (l : Lot) (g m : Int) : Int := if (check l).2.2 = 0 then pickE l g m else (check l).2.2
theorem pickC_enter (l : Lot) (g m : Int) : kE l (pickC l g m) = enterE l (pickE l g m) := kE_enter l _
theorem pickC_zero {l : Lot} {g m : Int} (h : pickC l g m = 0) : (check l).2.2 = 0 ∧ pickE l g m = 0 := by
  unfold pickC at h
  split at h
  · rename_i h1; exact ⟨h1, h⟩
  · rename_i h1; exact absurd h h1
theorem pickC_e {l : Lot} {g m : Int} (h : ¬ idxC l g l.grades.length = 0) : idxC l g l.grades.length = pickC l g m := by
  unfold pickC pickE
  unfold idxC at h ⊢
  by_cases h1 : (check l).2.2 = 0
  · rw [if_pos h1] at h ⊢
    rw [if_pos h1, if_pos h]
  · rw [if_neg h1, if_neg h1]
theorem pickC_7 {l : Lot} {g m : Int} (h : idxC l g l.grades.length = 0) (h2 : ¬ (0 ≤ m ∧ m ≤ 72)) : 7 = pickC l g m := by
  have h1 := idxC_ok h
  unfold idxC at h
  rw [if_pos h1] at h
  unfold pickC pickE
  rw [if_pos h1, if_neg (by simp [h]), if_pos]
  unfold out; rw [Bool.or_eq_true]; simp; omega
theorem pickC_0 {l : Lot} {g m : Int} (h : idxC l g l.grades.length = 0) (h2 : 0 ≤ m ∧ m ≤ 72) : idxC l g l.grades.length = pickC l g m := by
  have h1 := idxC_ok h
  rw [h]
  unfold idxC at h
  rw [if_pos h1] at h
  unfold pickC pickE
  rw [if_pos h1, if_neg (by simp [h]), if_neg]
  unfold out; rw [Bool.or_eq_true]; simp; omega
theorem sets_split {s : List Int} {k n : Nat} (h : k ≤ n) : ∃ r, setsTo s n = setsTo s k ++ r := by
  obtain ⟨d, rfl⟩ : ∃ d, n = k + d := ⟨n - k, by omega⟩
  clear h
  induction d with
  | zero => exact ⟨[], by simp⟩
  | succ d ih =>
    obtain ⟨r, hr⟩ := ih
    exact ⟨r ++ setsMany s (k + d), by rw [show k + (d + 1) = (k + d) + 1 by omega, setsTo, hr, List.append_assoc]⟩
theorem find_here {s : List Int} {p : List Int → Bool} {k q : Nat} (hk : k ≤ s.length) (h1 : (setsTo s k).find? p = none) (h2 : (((choices s.length k).take q).map (pickL s)).find? p = none) (hq : q < (choices s.length k).length) (hp : p (pickL s (choices s.length k)[q]) = true) : (setsL s).find? p = some (pickL s (choices s.length k)[q]) := by
  obtain ⟨r, hr⟩ := sets_split (s := s) (k := k + 1) (n := s.length + 1) (by omega)
  unfold setsL
  rw [hr, setsTo, List.append_assoc, List.find?_append, h1, Option.none_or, List.find?_append]
  have : (setsMany s k).find? p = some (pickL s (choices s.length k)[q]) := by
    have e : setsMany s k = ((choices s.length k).take q).map (pickL s) ++ (pickL s (choices s.length k)[q] :: ((choices s.length k).drop (q + 1)).map (pickL s)) := by
      unfold setsMany
      rw [← List.map_cons (f := pickL s), ← List.drop_eq_getElem_cons hq, ← List.map_append, List.take_append_drop]
    rw [e, List.find?_append, h2, Option.none_or, List.find?_cons, hp]
  rw [this]; rfl
theorem find_next {s : List Int} {p : List Int → Bool} {k q : Nat} (h2 : (((choices s.length k).take q).map (pickL s)).find? p = none) (hq : q < (choices s.length k).length) (hp : p (pickL s (choices s.length k)[q]) = false) : (((choices s.length k).take (q + 1)).map (pickL s)).find? p = none := by
  rw [List.take_succ_eq_append_getElem hq, List.map_append, List.find?_append, h2, Option.none_or]
  simp [hp]
theorem find_on {s : List Int} {p : List Int → Bool} {k q : Nat} (h1 : (setsTo s k).find? p = none) (h2 : (((choices s.length k).take q).map (pickL s)).find? p = none) (hq : (choices s.length k).length ≤ q) : (setsTo s (k + 1)).find? p = none := by
  rw [List.take_of_length_le hq] at h2
  rw [setsTo, List.find?_append, h1, Option.none_or]; exact h2
theorem pickP_some {l : Lot} {g m : Int} {x : List Int} (he : enterE l (pickE l g m) = 0) (h : (setsL (fitR l (ways l 0) g.toNat l.bunches.length)).find? (fun own => decide (m ≤ leastR (ways l 0) own)) = some x) : pickP l g m = (x, 0) := by
  rw [← pick_same]; unfold pickR; rw [if_neg (by simp [he]), h]
theorem pickP_none {l : Lot} {g m : Int} (he : enterE l (pickE l g m) = 0) (h : (setsL (fitR l (ways l 0) g.toNat l.bunches.length)).find? (fun own => decide (m ≤ leastR (ways l 0) own)) = none) : pickP l g m = ([], 9) := by
  rw [← pick_same]; unfold pickR; rw [if_neg (by simp [he]), h]
theorem wrongP_some {l : Lot} {x : List Int} (hc : (check l).2.2 = 0) (h : (choicesTo l.counts.length l.counts.length).find? (fun x => !(waysR l x).isEmpty) = some x) : wrongP l = (x, 0) := by
  rw [← wrong_same]; unfold wrongR; rw [if_neg (by simp [hc]), h]
theorem wrongP_none {l : Lot} (hc : (check l).2.2 = 0) (h : (choicesTo l.counts.length l.counts.length).find? (fun x => !(waysR l x).isEmpty) = none) : wrongP l = ((choices l.counts.length l.counts.length).getD 0 [], 0) := by
  rw [← wrong_same]; unfold wrongR; rw [if_neg (by simp [hc]), h]
theorem cTo_split {n k m : Nat} (h : k ≤ m) : ∃ r, choicesTo n m = choicesTo n k ++ r := by
  obtain ⟨d, rfl⟩ : ∃ d, m = k + d := ⟨m - k, by omega⟩
  clear h
  induction d with
  | zero => exact ⟨[], by simp⟩
  | succ d ih =>
    obtain ⟨r, hr⟩ := ih
    exact ⟨r ++ choices n (k + d), by rw [show k + (d + 1) = (k + d) + 1 by omega, choicesTo, hr, List.append_assoc]⟩
theorem cfind_here {n : Nat} {p : List Int → Bool} {k q : Nat} (hk : k < n) (h1 : (choicesTo n k).find? p = none) (h2 : ((choices n k).take q).find? p = none) (hq : q < (choices n k).length) (hp : p (choices n k)[q] = true) : (choicesTo n n).find? p = some (choices n k)[q] := by
  obtain ⟨r, hr⟩ := cTo_split (n := n) (k := k + 1) (m := n) (by omega)
  rw [hr, choicesTo, List.append_assoc, List.find?_append, h1, Option.none_or, List.find?_append]
  have : (choices n k).find? p = some (choices n k)[q] := by
    have e : ((choices n k).take q ++ (choices n k).drop q).find? p = some (choices n k)[q] := by
      rw [List.drop_eq_getElem_cons hq, List.find?_append, h2, Option.none_or, List.find?_cons, hp]
    rwa [List.take_append_drop] at e
  rw [this]; rfl
theorem cfind_next {n : Nat} {p : List Int → Bool} {k q : Nat} (h2 : ((choices n k).take q).find? p = none) (hq : q < (choices n k).length) (hp : p (choices n k)[q] = false) : ((choices n k).take (q + 1)).find? p = none := by
  rw [List.take_succ_eq_append_getElem hq, List.find?_append, h2, Option.none_or]; simp [hp]
theorem cfind_on {n : Nat} {p : List Int → Bool} {k q : Nat} (h1 : (choicesTo n k).find? p = none) (h2 : ((choices n k).take q).find? p = none) (hq : (choices n k).length ≤ q) : (choicesTo n (k + 1)).find? p = none := by
  rw [List.take_of_length_le hq] at h2
  rw [choicesTo, List.find?_append, h1, Option.none_or]; exact h2
theorem pick_idx {s : List Int} {k q j : Nat} (hq : q < (choices s.length k).length) (hj : j < ((choices s.length k)[q]).length) : 0 ≤ ((choices s.length k)[q])[j] ∧ ((choices s.length k)[q])[j].toNat < s.length := by
  have h1 := (choices_len (below := s.length) k _ (List.getElem_mem hq)).2 _ (List.getElem_mem hj)
  omega
theorem pickL_in {s : List Int} {k q : Nat} (hq : q < (choices s.length k).length) : ∀ z ∈ pickL s (choices s.length k)[q], z ∈ s := by
  intro z hz
  unfold pickL at hz
  obtain ⟨y, hy, rfl⟩ := List.mem_map.1 hz
  have h1 := (choices_len (below := s.length) k _ (List.getElem_mem hq)).2 y hy
  have hl : y.toNat < s.length := by omega
  simp only [List.getD, List.getElem?_eq_getElem hl, Option.getD_some]
  exact List.getElem_mem hl
end Go.Rt.Ha
/- Walks of this seat, printed by gen.py over the engine: what each function returns, in whatever world. No conditions but those of each contract. -/
set_option linter.unusedVariables false
set_option linter.unusedSimpArgs false
set_option maxRecDepth 20000
namespace Go.Proofs
open Go.Rt Go.Rt.Ha
attribute [local irreducible] WL WC Con Yd At Ats Sl Agree DW
theorem Try_Yc_fb6  (w : World) : (Instr.build 34 [].toArray).run Try.prog w = .ok (.agg #[.int .i64 0, .int .i64 0]) w := by kernel_rfl
theorem Try_Yc_fb7 (x0 : Int) (x1 : Int) (w : World) : (Instr.build 34 [(0, .int .i64 x0), (1, .int .i64 x1)].toArray).run Try.prog w = .ok (.agg #[.int .i64 x0, .int .i64 x1]) w := by kernel_rfl
theorem Try_Yc_fb8 (x0 : Int) (w : World) : (Instr.buildSlice 37 1 [(0, .int .i64 x0)].toArray).run Try.prog w = .ok (.slice (some ⟨w.heap.size, 0, none⟩) 1 1) (w.alloc (Go.Rt.blk 3 [.int .i64 x0])) := by kernel_rfl
theorem iv3R {a b c d e f : Int} (h : a = b) (h2 : c = d) (h3 : e = f) : [Value.int .i64 a, Value.int .i64 c, Value.int .i64 e] = [Value.int .i64 b, Value.int .i64 d, Value.int .i64 f] := by rw [h, h2, h3]
theorem c27 {w0 w : World} {F : List (Nat × Obj)} (l : Lot) (p : At3) (hm : LIn w0 F l p) (g : Int) (hs : St w0 w F) :
  Con Try.prog 27 [.agg (l.cells p).toArray, .int .i64 g] w fun v w' => v = .tuple #[.agg #[.int .i64 (totalP l g).1.1, .int .i64 (totalP l g).1.2], .int .i64 (totalP l g).2] ∧ St w0 w' F := by
  refine con_of_wc (n := 83) Try.func27 rfl rfl (Nat.le_of_ble_eq_true rfl) ?_
  have hlg0 := hm.lg
  refine w_seq (fun K2 hK1 => ?_)
  refine w_region ?_
  refine w_box (v := .agg #[.slice _ _ _, .slice _ _ _, .slice _ _ _]) (cs := [_, _, _]) want_none rfl rfl rfl hs (fun b3 w4 hs5 => ?_)
  refine w_alloc (cs := [_, _]) want_none Try.zeroValue34 rfl hs5 (fun b6 w7 hs8 => ?_)
  refine w_pure want_none (y_assign (v := _) rfl rfl) rfl ?_
  refine w_nil ?_
  refine q_then (hK1 _ _ ?_)
  refine w_seq (fun K10 hK9 => ?_)
  refine w_draw [] [(0, 1), (1, 1), (2, 0), (3, 0), (4, 1), (5, 0), (6, 2), (7, 2), (8, 0), (9, 0), (10, 0), (11, 0), (12, 0)] Try_mo (drawOK_of (by kernel_rfl)) hs8 (fun w11 hs12 => ?_)
  refine d_take rfl want_none rfl hs12 (fun _ hq => (y_loadN (vs := [_, _, _]) Try.isAgg26 Try.sizeOf26 hq rfl rfl (ats_own (i := 1) (vs := [_, _, _]) rfl rfl))) ?_
  refine d_take rfl want_none rfl hs12 (fun _ hq => (y_loadN (vs := [_, _, _]) Try.isAgg26 Try.sizeOf26 hq rfl rfl (ats_own (i := 1) (vs := [_, _, _]) rfl rfl))) ?_
  refine d_any rfl want_none rfl (fun _ => (y_move (v := .int _ _) rfl rfl)) ?_
  refine d_any rfl want_none rfl (fun _ => (y_fieldAddr (o := 0) (i := 0) Try.underlying26 rfl Try.sizeOf22 rfl rfl rfl)) ?_
  refine d_take rfl want_none rfl hs12 (fun _ hq => (y_load1 Try.isAgg22 hq rfl rfl (ats_own (i := 1) (vs := [_]) rfl rfl))) ?_
  refine d_any rfl want_none rfl (fun _ => (y_lenS Try.underlying22 rfl rfl)) ?_
  refine d_eff rfl ?_
  refine w_call want_none Try.call73 rfl rfl rfl rfl (c73 l p hm.cons.cons g l.grades.length (by omega) hs12) ?_
  rintro _ w14 ⟨rfl, hs15⟩
  refine w_nil ?_
  refine qn ⟨hs15, ?_⟩
  refine d_eff rfl ?_
  refine w_call want_none Try.call72 rfl rfl rfl rfl (c72 l p hm.cons.cons (idxC l g l.grades.length) (fun h => check_ok (idxC_ok h)) hs15) ?_
  rintro _ w17 (⟨hee, rfl, hs18⟩ | ⟨hee, B, vs, a, c, rfl, hslB, helB, hs18⟩)
  ·
   refine w_nil ?_
   refine qn ⟨hs18, ?_⟩
   refine d_any rfl want_none rfl (fun _ => (y_move (v := .tuple _) rfl rfl)) ?_
   refine d_any rfl want_none rfl (fun _ => (y_extract (v := .slice _ _ _) rfl rfl rfl)) ?_
   refine d_any rfl want_none rfl (fun _ => (y_extract (v := .int _ _) rfl rfl rfl)) ?_
   refine d_any rfl want_none rfl (fun _ => (y_assign (v := .slice _ _ _) rfl rfl)) ?_
   refine d_any rfl want_none rfl (fun _ => (y_assign (v := .int _ _) rfl rfl)) ?_
   refine d_nil ?_
   refine q_then (hK9 _ _ ?_)
   refine w_seq (fun K20 hK19 => ?_)
   refine w_seq (fun K22 hK21 => ?_)
   refine w_region ?_
   refine w_pure want_none (y_move (v := .int _ _) rfl rfl) rfl ?_
   refine w_pure want_none (y_neq rfl rfl rfl rfl) rfl ?_
   refine w_nil ?_
   refine q_then (hK21 _ _ ?_)
   refine w_cond rfl rfl (fun h23 => ?_) (fun h23 => ?_)
   ·
    try simp only [Bool.not_eq_true', Bool.not_eq_false', decide_eq_true_eq, decide_eq_false_iff_not, Int.not_lt, Int.not_le] at h23
    refine w_seq (fun K25 hK24 => ?_)
    refine w_region ?_
    refine w_pure want_none (y_build (ps := []) (pv := []) rfl rfl (fun w => Try_Yc_fb6  w)) rfl ?_
    refine w_pure want_none (y_move (v := .int _ _) rfl rfl) rfl ?_
    refine w_store (i := 0) (v := .agg #[.int _ _, .int _ _]) (vs := [_, _]) want_none Try.sizeOf34 rfl rfl rfl rfl rfl (by simp [Value.oneCell']) hs18 rfl (Nat.le_of_ble_eq_true rfl) (fun w26 hs27 => ?_)
    refine w_pure want_none (y_assign (v := .int _ _) rfl rfl) rfl ?_
    refine w_nil ?_
    refine q_then (hK24 _ _ ?_)
    refine w_ret ?_
    refine q_then_ret ?_
    refine q_ret (l := [.cell 4 34, .tmp 5]) (vs := [_, _]) rfl ⟨⟨rfl, _, rfl, run_loadVarN (vs := [_, _]) Try.isAgg34 Try.sizeOf34 hs27 (ats_own (i := 0) (vs := [_, _]) rfl rfl)⟩, ⟨rfl, show _ = (.int _ _ : Value) from rfl⟩, trivial⟩ ?_
    exact ⟨by rw [← tot_same]; unfold totR; rw [if_pos (by rw [← idxC_enter]; exact hee), ← idxC_enter]; rfl, hs27.tail.tail⟩
   ·
    exfalso
    try simp only [Bool.not_eq_true', Bool.not_eq_false', decide_eq_true_eq, decide_eq_false_iff_not, Int.not_lt, Int.not_le] at h23
    first | exact hee h23 | exact h23 hee
  ·
   replace hs18 := (show St _ _ (B ++ (_ :: _ :: F)) from hs18)
   have hke := kE_zero hee
   have hok := check_ok (idxC_ok hke.1)
   have hix := idxC_zero hke.1
   have hlg := hok.lg
   have hlb := hok.lb
   have hlc := hok.lc
   have hwl := ways_len hok 0
   have hwp : 0 < (Ha.ways l 0).length := by cases hw : Ha.ways l 0 with | nil => exact absurd hw hke.2 | cons _ _ => simp
   refine w_nil ?_
   refine qn ⟨hs18.drop, ?_⟩
   refine d_any rfl want_none rfl (fun _ => (y_move (v := .tuple _) rfl rfl)) ?_
   refine d_any rfl want_none rfl (fun _ => (y_extract (v := .slice _ _ _) rfl rfl rfl)) ?_
   refine d_any rfl want_none rfl (fun _ => (y_extract (v := .int _ _) rfl rfl rfl)) ?_
   refine d_any rfl want_none rfl (fun _ => (y_assign (v := .slice _ _ _) rfl rfl)) ?_
   refine d_any rfl want_none rfl (fun _ => (y_assign (v := .int _ _) rfl rfl)) ?_
   refine d_nil ?_
   refine q_then (hK9 _ _ ?_)
   refine w_seq (fun K29 hK28 => ?_)
   refine w_seq (fun K31 hK30 => ?_)
   refine w_region ?_
   refine w_pure want_none (y_move (v := .int _ _) rfl rfl) rfl ?_
   refine w_pure want_none (y_neq rfl rfl rfl rfl) rfl ?_
   refine w_nil ?_
   refine q_then (hK30 _ _ ?_)
   refine w_condF rfl rfl ?_
   refine w_skip ?_
   refine q_then (hK28 _ _ ?_)
   refine w_seq (fun K33 hK32 => ?_)
   have hs34 := St.perm (L := B ++ ([_, _] ++ F)) hs18 (perm_mid B [_, _] _)
   replace hs34 := (show St _ _ (_ :: _ :: (B ++ F)) from hs34)
   refine w_region ?_
   refine w_pure want_none (y_build (ps := [(0, _), (1, _)]) (pv := [(0, .int _ _), (1, .int _ _)]) rfl rfl (fun w => Try_Yc_fb7 _ _ w)) rfl ?_
   refine w_alloc (cs := [_, _]) want_none Try.zeroValue34 rfl hs34 (fun b35 w36 hs37 => ?_)
   refine w_store (i := 0) (v := .agg #[.int _ _, .int _ _]) (vs := [_, _]) want_none Try.sizeOf34 rfl rfl rfl rfl rfl (by simp [Value.oneCell']) hs37 rfl (Nat.le_of_ble_eq_true rfl) (fun w38 hs39 => ?_)
   refine w_nil ?_
   refine q_then (hK32 _ _ ?_)
   refine w_seq (fun K41 hK40 => ?_)
   refine w_seq (fun K43 hK42 => ?_)
   refine w_region ?_
   refine w_pure want_none (y_assign (v := _) rfl rfl) rfl ?_
   refine w_nil ?_
   refine q_then (hK42 _ _ ?_)
   refine w_block ?_
   refine w_loop [9, 10, 11, 12, 13, 30, 31, 32, 33, 34, 35, 36, 37, 38, 39, 40, 41, 42, 43, 44, 45, 46, 47, 48, 49, 50, 51, 52, 53, 54, 55, 56, 57, 58, 59, 60, 61, 62, 63, 64, 65, 66, 67, 68, 69, 70, 71, 72, 73, 74, 75, 76, 77, 78, 79, 80, 81] [9] (fun k vs0 w => ∃ (i : Nat), vs0 = [.int .i64 i] ∧ i ≤ (Ha.ways l 0).length ∧ k = (Ha.ways l 0).length - i ∧ St w0 w ((b35, blk 34 [.int .i64 (totalR l g ((Ha.ways l 0).take i)).1, .int .i64 (totalR l g ((Ha.ways l 0).take i)).2]) :: (b6, blk 34 [.int .i64 0, .int .i64 0]) :: (b3, blk 26 (l.cells p)) :: (B ++ F))) ((Ha.ways l 0).length) ?_ ?_
   ·
    exact ⟨0, rfl, by omega, by omega, hs39⟩
   ·
    intro k vs μ w46 hI K45 hN44
    obtain ⟨i, rfl, hia, rfl, hs⟩ := hI
    refine w_seq (fun K48 hK47 => ?_)
    refine w_seq (fun K50 hK49 => ?_)
    refine w_region ?_
    refine w_pure want_none (y_move (v := .int _ _) rfl rfl) rfl ?_
    refine w_pure want_none (y_move (v := .slice _ _ _) rfl rfl) rfl ?_
    refine w_pure want_none (y_lenS Try.underlying64 rfl rfl) rfl ?_
    refine w_pure want_none (y_lss rfl rfl rfl rfl) rfl ?_
    refine w_nil ?_
    refine q_then (hK49 _ _ ?_)
    refine w_cond rfl rfl (fun h51 => ?_) (fun h51 => ?_)
    ·
     try simp only [Bool.not_eq_true', Bool.not_eq_false', decide_eq_true_eq, decide_eq_false_iff_not, Int.not_lt, Int.not_le] at h51
     refine w_skip ?_
     refine q_then (hK47 _ _ ?_)
     refine w_seq (fun K53 hK52 => ?_)
     refine w_block ?_
     refine w_seq (fun K55 hK54 => ?_)
     have hi2 : i < (Ha.ways l 0).length := by omega
     obtain ⟨bx, ox, e2, q2, ha, hx0, hsx, _⟩ := el_at hslB helB hi2
     subst ha
     have hx := hx0.top (F := F)
     have hwi := way_in hok (List.getElem_mem hi2)
     have hwlen := way_len (List.getElem_mem hi2)
     refine w_region ?_
     refine w_pure want_none (y_assign (v := _) rfl rfl) rfl ?_
     refine w_pure want_none (y_assign (v := _) rfl rfl) rfl ?_
     refine w_nil ?_
     refine q_then (hK54 _ _ ?_)
     refine w_seq (fun K57 hK56 => ?_)
     refine w_seq (fun K59 hK58 => ?_)
     refine w_region ?_
     refine w_pure want_none (y_assign (v := _) rfl rfl) rfl ?_
     refine w_nil ?_
     refine q_then (hK58 _ _ ?_)
     refine w_block ?_
     refine w_loop [10, 11, 12, 13, 36, 37, 38, 39, 40, 41, 42, 43, 44, 45, 46, 47, 48, 49, 50, 51, 52, 53, 54, 55, 56, 57, 58, 59, 60, 61, 62, 63, 64, 65, 66, 67, 68, 69, 70, 71, 72, 73, 74, 75, 76] [10, 11, 12] (fun k vs0 w => ∃ (q : Nat), vs0 = [.int .i64 (sumsR l g ((Ha.ways l 0)[i]'hi2) q).1, .int .i64 (sumsR l g ((Ha.ways l 0)[i]'hi2) q).2, .int .i64 q] ∧ q ≤ l.bunches.length ∧ k = l.bunches.length - q ∧ St w0 w ((b35, blk 34 [.int .i64 (totalR l g ((Ha.ways l 0).take i)).1, .int .i64 (totalR l g ((Ha.ways l 0).take i)).2]) :: (b6, blk 34 [.int .i64 0, .int .i64 0]) :: (b3, blk 26 (l.cells p)) :: (B ++ F))) (l.bunches.length) ?_ ?_
     ·
      exact ⟨0, rfl, by omega, by omega, hs⟩
     ·
      intro k vs μ w62 hI K61 hN60
      obtain ⟨q, rfl, hqa, rfl, hs⟩ := hI
      refine w_seq (fun K64 hK63 => ?_)
      refine w_seq (fun K66 hK65 => ?_)
      refine w_region ?_
      refine w_pure want_none (y_move (v := .int _ _) rfl rfl) rfl ?_
      refine w_pure want_none (y_fieldAddr (o := 1) (i := 1) Try.underlying26 rfl Try.sizeOf23 rfl rfl rfl) rfl ?_
      refine w_pure want_none (y_load1 Try.isAgg23 hs rfl rfl (ats_own (i := 2) (vs := [_]) rfl rfl)) rfl ?_
      refine w_pure want_none (y_lenS Try.underlying23 rfl rfl) rfl ?_
      refine w_pure want_none (y_lss rfl rfl rfl rfl) rfl ?_
      refine w_nil ?_
      refine q_then (hK65 _ _ ?_)
      refine w_cond rfl rfl (fun h67 => ?_) (fun h67 => ?_)
      ·
       try simp only [Bool.not_eq_true', Bool.not_eq_false', decide_eq_true_eq, decide_eq_false_iff_not, Int.not_lt, Int.not_le] at h67
       refine w_skip ?_
       refine q_then (hK63 _ _ ?_)
       refine w_seq (fun K69 hK68 => ?_)
       refine w_block ?_
       refine w_seq (fun K71 hK70 => ?_)
       have hq2 : q < l.bunches.length := by omega
       have hbi : q < ((Ha.ways l 0)[i]'hi2).length := by omega
       obtain ⟨c1, p1, he1, hy0⟩ := sl_ints hsx hbi
       subst he1
       have hy := hy0.top (F := F)
       have hgl := gradesL_len2 hok hq2 (at_ ((Ha.ways l 0)[i]'hi2) q)
       have hsi := sumsR_in (l := l) (g := g) hwi q
       have hgq := hwi q
       have hag := at_get hbi
       refine w_draw [] [(0, 1), (1, 0), (2, 0), (3, 0), (4, 0), (5, 1), (6, 0), (7, 0), (8, 1), (9, 2), (10, 0)] Try_mo (drawOK_of (by kernel_rfl)) hs (fun w72 hs73 => ?_)
       refine d_take rfl want_none rfl hs73 (fun _ hq => (y_loadN (vs := [_, _, _]) Try.isAgg26 Try.sizeOf26 hq rfl rfl (ats_own (i := 2) (vs := [_, _, _]) rfl rfl))) ?_
       refine d_any rfl want_none rfl (fun _ => (y_move (v := .int _ _) rfl rfl)) ?_
       refine d_any rfl want_none rfl (fun _ => (y_move (v := .slice _ _ _) rfl rfl)) ?_
       refine d_any rfl want_none rfl (fun _ => (y_move (v := .int _ _) rfl rfl)) ?_
       refine d_any rfl want_none rfl (fun _ => (y_indexS Try.underlying64 Try.sizeOf37 rfl rfl rfl rfl (i := _) rfl (by omega))) ?_
       refine d_take rfl want_none rfl hs73 (fun _ hq => (y_load1 Try.isAgg37 hq.tail.tail.tail rfl rfl hx)) ?_
       refine d_any rfl want_none rfl (fun _ => (y_move (v := .int _ _) rfl rfl)) ?_
       refine d_any rfl want_none rfl (fun _ => (y_indexS Try.underlying37 Try.sizeOf3 rfl rfl rfl rfl (i := q) rfl hbi)) ?_
       refine d_take rfl want_none rfl hs73 (fun _ hq => (y_load1 Try.isAgg3 hq.tail.tail.tail rfl rfl hy)) ?_
       refine d_eff rfl ?_
       refine w_call want_none Try.call80 rfl rfl rfl rfl ((c80 l p hm.app.cons.cons.cons hok q hq2 ((Ha.ways l 0)[i]'hi2)[q] hs73).mono (fun v w2 h => by rw [← at_get hbi] at h; exact h)) ?_
       rintro _ w75 ⟨GB, hownG, hs76⟩
       replace hs76 := (show St _ _ (GB ++ (_ :: _ :: _ :: B ++ (F))) from hs76)
       obtain ⟨aG, cG, rfl, hslG, _, _⟩ := own_ints (w0 := w0) hownG
       refine w_nil ?_
       refine qn ⟨hs76.drop, ?_⟩
       refine d_any rfl want_none rfl (fun _ => (y_assign (v := .slice _ _ _) rfl rfl)) ?_
       refine d_nil ?_
       refine q_then (hK70 _ _ ?_)
       refine w_seq (fun K78 hK77 => ?_)
       refine w_region ?_
       refine w_pure want_none (y_move (v := .slice _ _ _) rfl rfl) rfl ?_
       refine w_pure want_none (y_move (v := .int _ _) rfl rfl) rfl ?_
       refine w_call want_none Try.call43 rfl rfl rfl rfl (c43 _ _ (gradesL l.grades (at_ ((Ha.ways l 0)[i]'hi2) q) (scarsOf l q)) (by omega) hslG.top _ hs76) ?_
       rintro _ w80 ⟨rfl, hs81⟩
       refine w_nil ?_
       refine q_then (hK77 _ _ ?_)
       refine w_cond rfl rfl (fun h82 => ?_) (fun h82 => ?_)
       ·
        try simp only [Bool.not_eq_true', Bool.not_eq_false', decide_eq_true_eq, decide_eq_false_iff_not, Int.not_lt, Int.not_le] at h82
        refine w_seq (fun K84 hK83 => ?_)
        refine w_region ?_
        refine w_pure want_none (y_move (v := .int _ _) rfl rfl) rfl ?_
        refine w_pure want_none (y_move (v := .slice _ _ _) rfl rfl) rfl ?_
        refine w_pure want_none (y_move (v := .int _ _) rfl rfl) rfl ?_
        refine w_pure want_none (y_indexS Try.underlying64 Try.sizeOf37 rfl rfl rfl rfl (i := _) rfl (by omega)) rfl ?_
        refine w_pure want_none (y_load1 Try.isAgg37 hs81.drop.tail.tail.tail rfl rfl hx) rfl ?_
        refine w_pure want_none (y_move (v := .int _ _) rfl rfl) rfl ?_
        refine w_pure want_none (y_indexS Try.underlying37 Try.sizeOf3 rfl rfl rfl rfl (i := q) rfl hbi) rfl ?_
        refine w_pure want_none (y_load1 Try.isAgg3 hs81.drop.tail.tail.tail rfl rfl hy) rfl ?_
        refine w_pure want_none (y_add rfl rfl rfl rfl (by omega) (by omega)) rfl ?_
        refine w_pure want_none (y_assign (v := .int _ _) rfl rfl) rfl ?_
        refine w_nil ?_
        refine q_then (hK83 _ _ ?_)
        refine w_seq (fun K86 hK85 => ?_)
        refine w_region ?_
        refine w_pure want_none (y_move (v := .slice _ _ _) rfl rfl) rfl ?_
        refine w_pure want_none (y_lenS Try.underlying37 rfl rfl) rfl ?_
        refine w_pure want_none (y_eql rfl rfl rfl rfl) rfl ?_
        refine w_nil ?_
        refine q_then (hK85 _ _ ?_)
        refine w_cond rfl rfl (fun h87 => ?_) (fun h87 => ?_)
        ·
         try simp only [Bool.not_eq_true', Bool.not_eq_false', decide_eq_true_eq, decide_eq_false_iff_not, Int.not_lt, Int.not_le] at h87
         refine w_region ?_
         refine w_pure want_none (y_move (v := .int _ _) rfl rfl) rfl ?_
         refine w_pure want_none (y_move (v := .slice _ _ _) rfl rfl) rfl ?_
         refine w_pure want_none (y_move (v := .int _ _) rfl rfl) rfl ?_
         refine w_pure want_none (y_indexS Try.underlying64 Try.sizeOf37 rfl rfl rfl rfl (i := _) rfl (by omega)) rfl ?_
         refine w_pure want_none (y_load1 Try.isAgg37 hs81.drop.tail.tail.tail rfl rfl hx) rfl ?_
         refine w_pure want_none (y_move (v := .int _ _) rfl rfl) rfl ?_
         refine w_pure want_none (y_indexS Try.underlying37 Try.sizeOf3 rfl rfl rfl rfl (i := q) rfl hbi) rfl ?_
         refine w_pure want_none (y_load1 Try.isAgg3 hs81.drop.tail.tail.tail rfl rfl hy) rfl ?_
         refine w_pure want_none (y_add rfl rfl rfl rfl (by omega) (by omega)) rfl ?_
         refine w_pure want_none (y_assign (v := .int _ _) rfl rfl) rfl ?_
         refine w_nil ?_
         refine q_blk_normal ?_
         refine q_then (hK68 _ _ ?_)
         refine w_region ?_
         refine w_pure want_none (y_move (v := .int _ _) rfl rfl) rfl ?_
         refine w_pure want_none (y_add rfl rfl rfl rfl (by omega) (by omega)) rfl ?_
         refine w_pure want_none (y_assign (v := .int _ _) rfl rfl) rfl ?_
         refine w_nil ?_
         refine q_then (hN60 _ _ (Nx.intro (l.bunches.length - (q + 1)) (by omega) (by repeat (first | exact agree_mix | refine agree_upd rfl ?_ | refine agree_updL rfl ?_ _ | refine agree_mixin rfl ?_)) ?_))
         first
           | (have hn := sumsR_a (l := l) (g := g) (h := ((Ha.ways l 0)[i]'hi2)) (k := q) (by assumption) (by omega)
              rw [hag] at hn
              exact ⟨q + 1, iv3R (by rw [hn]) (by rw [hn]) rfl, by omega, rfl, hs81.drop⟩)
           | (have hn := sumsR_b (l := l) (g := g) (h := ((Ha.ways l 0)[i]'hi2)) (k := q) (by assumption) (by omega)
              rw [hag] at hn
              exact ⟨q + 1, iv3R (by rw [hn]) (by rw [hn]) rfl, by omega, rfl, hs81.drop⟩)
           | (have hn := sumsR_c (l := l) (g := g) (h := ((Ha.ways l 0)[i]'hi2)) (k := q) (by assumption)
              exact ⟨q + 1, iv3R (by rw [hn]) (by rw [hn]) rfl, by omega, rfl, hs81.drop⟩)
        ·
         try simp only [Bool.not_eq_true', Bool.not_eq_false', decide_eq_true_eq, decide_eq_false_iff_not, Int.not_lt, Int.not_le] at h87
         refine w_skip ?_
         refine q_blk_normal ?_
         refine q_then (hK68 _ _ ?_)
         refine w_region ?_
         refine w_pure want_none (y_move (v := .int _ _) rfl rfl) rfl ?_
         refine w_pure want_none (y_add rfl rfl rfl rfl (by omega) (by omega)) rfl ?_
         refine w_pure want_none (y_assign (v := .int _ _) rfl rfl) rfl ?_
         refine w_nil ?_
         refine q_then (hN60 _ _ (Nx.intro (l.bunches.length - (q + 1)) (by omega) (by repeat (first | exact agree_mix | refine agree_upd rfl ?_ | refine agree_updL rfl ?_ _ | refine agree_mixin rfl ?_)) ?_))
         first
           | (have hn := sumsR_a (l := l) (g := g) (h := ((Ha.ways l 0)[i]'hi2)) (k := q) (by assumption) (by omega)
              rw [hag] at hn
              exact ⟨q + 1, iv3R (by rw [hn]) (by rw [hn]) rfl, by omega, rfl, hs81.drop⟩)
           | (have hn := sumsR_b (l := l) (g := g) (h := ((Ha.ways l 0)[i]'hi2)) (k := q) (by assumption) (by omega)
              rw [hag] at hn
              exact ⟨q + 1, iv3R (by rw [hn]) (by rw [hn]) rfl, by omega, rfl, hs81.drop⟩)
           | (have hn := sumsR_c (l := l) (g := g) (h := ((Ha.ways l 0)[i]'hi2)) (k := q) (by assumption)
              exact ⟨q + 1, iv3R (by rw [hn]) (by rw [hn]) rfl, by omega, rfl, hs81.drop⟩)
       ·
        try simp only [Bool.not_eq_true', Bool.not_eq_false', decide_eq_true_eq, decide_eq_false_iff_not, Int.not_lt, Int.not_le] at h82
        refine w_skip ?_
        refine q_blk_normal ?_
        refine q_then (hK68 _ _ ?_)
        refine w_region ?_
        refine w_pure want_none (y_move (v := .int _ _) rfl rfl) rfl ?_
        refine w_pure want_none (y_add rfl rfl rfl rfl (by omega) (by omega)) rfl ?_
        refine w_pure want_none (y_assign (v := .int _ _) rfl rfl) rfl ?_
        refine w_nil ?_
        refine q_then (hN60 _ _ (Nx.intro (l.bunches.length - (q + 1)) (by omega) (by repeat (first | exact agree_mix | refine agree_upd rfl ?_ | refine agree_updL rfl ?_ _ | refine agree_mixin rfl ?_)) ?_))
        first
          | (have hn := sumsR_a (l := l) (g := g) (h := ((Ha.ways l 0)[i]'hi2)) (k := q) (by assumption) (by omega)
             rw [hag] at hn
             exact ⟨q + 1, iv3R (by rw [hn]) (by rw [hn]) rfl, by omega, rfl, hs81.drop⟩)
          | (have hn := sumsR_b (l := l) (g := g) (h := ((Ha.ways l 0)[i]'hi2)) (k := q) (by assumption) (by omega)
             rw [hag] at hn
             exact ⟨q + 1, iv3R (by rw [hn]) (by rw [hn]) rfl, by omega, rfl, hs81.drop⟩)
          | (have hn := sumsR_c (l := l) (g := g) (h := ((Ha.ways l 0)[i]'hi2)) (k := q) (by assumption)
             exact ⟨q + 1, iv3R (by rw [hn]) (by rw [hn]) rfl, by omega, rfl, hs81.drop⟩)
      ·
       try simp only [Bool.not_eq_true', Bool.not_eq_false', decide_eq_true_eq, decide_eq_false_iff_not, Int.not_lt, Int.not_le] at h67
       refine w_exit ?_
       refine q_then_exit ?_
       refine q_then_exit ?_
       refine q_blk_this ?_
       refine q_then (hK56 _ _ ?_)
       refine w_region ?_
       refine w_pure want_none (y_loadN (vs := [_, _]) Try.isAgg34 Try.sizeOf34 hs rfl rfl (ats_own (i := 0) (vs := [_, _]) rfl rfl)) rfl ?_
       refine w_pure want_none (y_move (v := .int _ _) rfl rfl) rfl ?_
       refine w_call want_none Try.call81 rfl rfl rfl rfl (c81 _ _ _ hs) ?_
       rintro _ w89 ⟨rfl, hs90⟩
       refine w_pure want_none (y_move (v := .int _ _) rfl rfl) rfl ?_
       refine w_call want_none Try.call81 rfl rfl rfl rfl (c81 _ _ _ hs90) ?_
       rintro _ w92 ⟨rfl, hs93⟩
       refine w_store (i := 0) (v := .agg #[.int _ _, .int _ _]) (vs := [_, _]) want_none Try.sizeOf34 rfl rfl rfl rfl rfl (by simp [Value.oneCell']) hs93 rfl (Nat.le_of_ble_eq_true rfl) (fun w94 hs95 => ?_)
       refine w_nil ?_
       refine q_blk_normal ?_
       refine q_then (hK52 _ _ ?_)
       refine w_region ?_
       refine w_pure want_none (y_move (v := .int _ _) rfl rfl) rfl ?_
       refine w_pure want_none (y_add rfl rfl rfl rfl (by omega) (by omega)) rfl ?_
       refine w_pure want_none (y_assign (v := .int _ _) rfl rfl) rfl ?_
       refine w_nil ?_
       refine q_then (hN44 _ _ (Nx.intro ((Ha.ways l 0).length - (i + 1)) (by omega) (by repeat (first | exact agree_mix | refine agree_upd rfl ?_ | refine agree_updL rfl ?_ _ | refine agree_mixin rfl ?_)) ?_))
       have hqn : q = l.bunches.length := by omega
       subst hqn
       exact ⟨i + 1, rfl, by omega, rfl, by rw [totalR_take hi2]; exact hs95⟩
    ·
     try simp only [Bool.not_eq_true', Bool.not_eq_false', decide_eq_true_eq, decide_eq_false_iff_not, Int.not_lt, Int.not_le] at h51
     refine w_exit ?_
     refine q_then_exit ?_
     refine q_then_exit ?_
     refine q_blk_this ?_
     refine q_then (hK40 _ _ ?_)
     refine w_seq (fun K97 hK96 => ?_)
     refine w_region ?_
     refine w_pure want_none (y_loadN (vs := [_, _]) Try.isAgg34 Try.sizeOf34 hs rfl rfl (ats_own (i := 0) (vs := [_, _]) rfl rfl)) rfl ?_
     refine w_store (i := 1) (v := .agg #[.int _ _, .int _ _]) (vs := [_, _]) want_none Try.sizeOf34 rfl rfl rfl rfl rfl (by simp [Value.oneCell']) hs rfl (Nat.le_of_ble_eq_true rfl) (fun w98 hs99 => ?_)
     refine w_pure want_none (y_assign (v := _) rfl rfl) rfl ?_
     refine w_nil ?_
     refine q_then (hK96 _ _ ?_)
     refine w_ret ?_
     refine q_ret (l := [.cell 4 34, .tmp 5]) (vs := [_, _]) rfl ⟨⟨rfl, _, rfl, run_loadVarN (vs := [_, _]) Try.isAgg34 Try.sizeOf34 hs99 (ats_own (i := 1) (vs := [_, _]) rfl rfl)⟩, ⟨rfl, show _ = (.int _ _ : Value) from rfl⟩, trivial⟩ ?_
     have hin : i = (Ha.ways l 0).length := by omega
     subst hin
     exact ⟨by rw [← tot_same]; unfold totR; rw [if_neg (by rw [← idxC_enter, hee]; simp), List.take_length]; rfl, hs99.tail.tail.tail.drop⟩

theorem keep_two1 {w0 w : World} {B1 B2 M F : List (Nat × Obj)} {x : Nat × Obj} (h : St w0 w (B1 ++ (B2 ++ (M ++ (x :: F))))) : St w0 w ((B1 ++ B2) ++ F) := by
  rw [← List.append_assoc] at h
  exact kq_own (kq_opq h)
theorem c29 {w0 w : World} {F : List (Nat × Obj)} (l : Lot) (p : At3) (hm : LIn w0 F l p)  (hs : St w0 w F) :
  Con Try.prog 29 [.agg (l.cells p).toArray] w fun v w' => ∃ B a1 c1 a2 c2, v = .tuple #[.slice a1 (refusedP l).1.length c1, .slice a2 (refusedP l).2.1.length c2, .int .i64 (refusedP l).2.2] ∧ Sl w0 B a1 1 ((refusedP l).1.map fun x => [Value.int .i64 x]) ∧ Sl w0 B a2 1 ((refusedP l).2.1.map fun x => [Value.int .i64 x]) ∧ St w0 w' (B ++ F) := by
  refine con_of_wc (n := 52) Try.func29 rfl rfl (Nat.le_of_ble_eq_true rfl) ?_
  have hlb0 := hm.lb
  refine w_seq (fun K2 hK1 => ?_)
  refine w_region ?_
  refine w_box (v := .agg #[.slice _ _ _, .slice _ _ _, .slice _ _ _]) (cs := [_, _, _]) want_none rfl rfl rfl hs (fun b3 w4 hs5 => ?_)
  refine w_pure want_none (y_assign (v := _) rfl rfl) rfl ?_
  refine w_pure want_none (y_assign (v := _) rfl rfl) rfl ?_
  refine w_pure want_none (y_assign (v := _) rfl rfl) rfl ?_
  refine w_nil ?_
  refine q_then (hK1 _ _ ?_)
  refine w_seq (fun K7 hK6 => ?_)
  have hbx := ats_ofR (i := 0) (vs := l.cells p) hs5 rfl rfl
  refine w_region ?_
  refine w_pure want_none (y_loadN (vs := [_, _, _]) Try.isAgg26 Try.sizeOf26 hs5 rfl rfl hbx) rfl ?_
  refine w_call want_none Try.call17 rfl rfl rfl rfl (c17 l p hm.cons hs5) ?_
  rintro _ w9 ⟨rfl, hs10⟩
  refine w_pure want_none (y_move (v := .tuple _) rfl rfl) rfl ?_
  refine w_pure want_none (y_extract (v := .int _ _) rfl rfl rfl) rfl ?_
  refine w_pure want_none (y_extract (v := .int _ _) rfl rfl rfl) rfl ?_
  refine w_pure want_none (y_extract (v := .int _ _) rfl rfl rfl) rfl ?_
  refine w_pure want_none (y_assign (v := .int _ _) rfl rfl) rfl ?_
  refine w_pure want_none (y_assign (v := .int _ _) rfl rfl) rfl ?_
  refine w_pure want_none (y_assign (v := .int _ _) rfl rfl) rfl ?_
  refine w_nil ?_
  refine q_then (hK6 _ _ ?_)
  refine w_seq (fun K12 hK11 => ?_)
  refine w_region ?_
  refine w_pure want_none (y_loadN (vs := [_, _, _]) Try.isAgg26 Try.sizeOf26 hs10 rfl rfl hbx) rfl ?_
  refine w_pure want_none (y_move (v := .int _ _) rfl rfl) rfl ?_
  refine w_call want_none Try.call72 rfl rfl rfl rfl (c72 l p hm.cons (check l).2.2 (fun h => check_ok h) hs10) ?_
  rintro _ w14 (⟨hee, rfl, hs15⟩ | ⟨hee, B, vs, a, c, rfl, hslB, helB, hs15⟩)
  ·
   refine w_pure want_none (y_move (v := .tuple _) rfl rfl) rfl ?_
   refine w_pure want_none (y_extract (v := .slice _ _ _) rfl rfl rfl) rfl ?_
   refine w_pure want_none (y_extract (v := .int _ _) rfl rfl rfl) rfl ?_
   refine w_pure want_none (y_assign (v := .slice _ _ _) rfl rfl) rfl ?_
   refine w_pure want_none (y_assign (v := .int _ _) rfl rfl) rfl ?_
   refine w_nil ?_
   refine q_then (hK11 _ _ ?_)
   refine w_seq (fun K17 hK16 => ?_)
   refine w_seq (fun K19 hK18 => ?_)
   refine w_region ?_
   refine w_pure want_none (y_move (v := .int _ _) rfl rfl) rfl ?_
   refine w_pure want_none (y_neq rfl rfl rfl rfl) rfl ?_
   refine w_nil ?_
   refine q_then (hK18 _ _ ?_)
   refine w_cond rfl rfl (fun h20 => ?_) (fun h20 => ?_)
   ·
    try simp only [Bool.not_eq_true', Bool.not_eq_false', decide_eq_true_eq, decide_eq_false_iff_not, Int.not_lt, Int.not_le] at h20
    refine w_seq (fun K22 hK21 => ?_)
    refine w_region ?_
    refine w_pure want_none (y_move (v := .int _ _) rfl rfl) rfl ?_
    refine w_pure want_none (y_assign (v := _) rfl rfl) rfl ?_
    refine w_pure want_none (y_assign (v := _) rfl rfl) rfl ?_
    refine w_pure want_none (y_assign (v := .int _ _) rfl rfl) rfl ?_
    refine w_nil ?_
    refine q_then (hK21 _ _ ?_)
    refine w_ret ?_
    refine q_then_ret ?_
    refine q_ret (l := [.tmp 2, .tmp 3, .tmp 4]) (vs := [_, _, _]) rfl ⟨⟨rfl, show _ = (.slice _ _ _ : Value) from rfl⟩, ⟨rfl, show _ = (.slice _ _ _ : Value) from rfl⟩, ⟨rfl, show _ = (.int _ _ : Value) from rfl⟩, trivial⟩ ?_
    have hq : refusedP l = ([], [], kE l (check l).2.2) := by rw [kE_chk]; unfold refusedP; rw [if_pos (by rw [← kE_chk]; exact hee)]
    exact ⟨[], none, 0, none, 0, by rw [hq]; rfl, by rw [hq]; exact Sl.nil _ _, by rw [hq]; exact Sl.nil _ _, hs15.tail⟩
   ·
    exfalso
    try simp only [Bool.not_eq_true', Bool.not_eq_false', decide_eq_true_eq, decide_eq_false_iff_not, Int.not_lt, Int.not_le] at h20
    first | exact hee h20 | exact h20 hee
  ·
   replace hs15 := (show St _ _ (B ++ (_ :: F)) from hs15)
   have hke := kE_zero hee
   have hok := check_ok hke.1
   have hlg := hok.lg
   have hlb := hok.lb
   have hlc := hok.lc
   have hwl := ways_len hok 0
   have hwp : 0 < (Ha.ways l 0).length := by cases hw : Ha.ways l 0 with | nil => exact absurd hw hke.2 | cons _ _ => simp
   refine w_pure want_none (y_move (v := .tuple _) rfl rfl) rfl ?_
   refine w_pure want_none (y_extract (v := .slice _ _ _) rfl rfl rfl) rfl ?_
   refine w_pure want_none (y_extract (v := .int _ _) rfl rfl rfl) rfl ?_
   refine w_pure want_none (y_assign (v := .slice _ _ _) rfl rfl) rfl ?_
   refine w_pure want_none (y_assign (v := .int _ _) rfl rfl) rfl ?_
   refine w_nil ?_
   refine q_then (hK11 _ _ ?_)
   refine w_seq (fun K24 hK23 => ?_)
   refine w_seq (fun K26 hK25 => ?_)
   refine w_region ?_
   refine w_pure want_none (y_move (v := .int _ _) rfl rfl) rfl ?_
   refine w_pure want_none (y_neq rfl rfl rfl rfl) rfl ?_
   refine w_nil ?_
   refine q_then (hK25 _ _ ?_)
   refine w_condF rfl rfl ?_
   refine w_skip ?_
   refine q_then (hK23 _ _ ?_)
   refine w_seq (fun K28 hK27 => ?_)
   refine w_region ?_
   refine w_pure want_none (y_assign (v := _) rfl rfl) rfl ?_
   refine w_pure want_none (y_assign (v := _) rfl rfl) rfl ?_
   refine w_nil ?_
   refine q_then (hK27 _ _ ?_)
   refine w_seq (fun K30 hK29 => ?_)
   refine w_seq (fun K32 hK31 => ?_)
   refine w_region ?_
   refine w_pure want_none (y_assign (v := _) rfl rfl) rfl ?_
   refine w_nil ?_
   refine q_then (hK31 _ _ ?_)
   refine w_block ?_
   refine w_loop [9, 10, 11, 27, 28, 29, 30, 31, 32, 33, 34, 35, 36, 37, 38, 39, 40, 41, 42, 43, 44, 45, 46, 47, 48, 49] [9, 10, 11] (fun k vs0 w => ∃ (i : Nat) (v1 v2 : Value) (B1 B2 : List (Nat × Obj)), vs0 = [v1, v2, .int .i64 i] ∧ i ≤ l.bunches.length ∧ k = l.bunches.length - i ∧ Rt.Own v1 3 1 (sureR l (Ha.ways l 0) i).length (iv (sureR l (Ha.ways l 0) i)) B1 ∧ Rt.Own v2 3 1 (mayR l (Ha.ways l 0) i).length (iv (mayR l (Ha.ways l 0) i)) B2 ∧ St w0 w (B1 ++ (B2 ++ (B ++ ((b3, blk 26 (l.cells p)) :: F))))) (l.bunches.length) ?_ ?_
   ·
    exact ⟨0, _, _, [], [], rfl, by omega, by omega, own_nil 3 1, own_nil 3 1, hs15⟩
   ·
    intro k vs μ w35 hI K34 hN33
    obtain ⟨i, v1, v2, B1, B2, rfl, hia, rfl, hown1, hown2, hs⟩ := hI
    refine w_seq (fun K37 hK36 => ?_)
    refine w_seq (fun K39 hK38 => ?_)
    refine w_region ?_
    refine w_pure want_none (y_move (v := .int _ _) rfl rfl) rfl ?_
    refine w_pure want_none (y_fieldAddr (o := 1) (i := 1) Try.underlying26 rfl Try.sizeOf23 rfl rfl rfl) rfl ?_
    refine w_pure want_none (y_load1 Try.isAgg23 hs.drop.drop.drop rfl rfl (show Ats _ _ _ _ [_] from Ats.part hbx 1 1)) rfl ?_
    refine w_pure want_none (y_lenS Try.underlying23 rfl rfl) rfl ?_
    refine w_pure want_none (y_lss rfl rfl rfl rfl) rfl ?_
    refine w_nil ?_
    refine q_then (hK38 _ _ ?_)
    refine w_cond rfl rfl (fun h40 => ?_) (fun h40 => ?_)
    ·
     try simp only [Bool.not_eq_true', Bool.not_eq_false', decide_eq_true_eq, decide_eq_false_iff_not, Int.not_lt, Int.not_le] at h40
     refine w_skip ?_
     refine q_then (hK36 _ _ ?_)
     refine w_seq (fun K42 hK41 => ?_)
     refine w_block ?_
     refine w_seq (fun K44 hK43 => ?_)
     refine w_seq (fun K46 hK45 => ?_)
     have hi2 : i < l.bunches.length := by omega
     have hsl1 := sureR_len l (Ha.ways l 0) i
     have hml := mayR_len l (Ha.ways l 0) i
     refine w_region ?_
     refine w_pure want_none (y_loadN (vs := [_, _, _]) Try.isAgg26 Try.sizeOf26 hs.drop.drop.drop rfl rfl hbx) rfl ?_
     refine w_pure want_none (y_move (v := .slice _ _ _) rfl rfl) rfl ?_
     refine w_pure want_none (y_move (v := .int _ _) rfl rfl) rfl ?_
     refine w_call want_none Try.call83 rfl rfl rfl rfl (c83 l p hm.cons.app.app.app hok _ _ (Ha.ways l 0) vs hslB.top.app.app helB.top.app.app hwl i hi2 (fun h hh => by rw [way_len hh]; omega) (-1) hs) ?_
     rintro _ w48 ⟨rfl, hs49⟩
     refine w_nil ?_
     refine q_then (hK45 _ _ ?_)
     refine w_cond rfl rfl (fun h50 => ?_) (fun h50 => ?_)
     ·
      try simp only [Bool.not_eq_true', Bool.not_eq_false', decide_eq_true_eq, decide_eq_false_iff_not, Int.not_lt, Int.not_le] at h50
      refine w_region ?_
      refine w_pure want_none (y_move (v := v1) rfl rfl) rfl ?_
      refine w_pure want_none (y_move (v := .int _ _) rfl rfl) rfl ?_
      refine w_bslice (ps := [(0, _)]) (pv := [(0, .int _ _)]) (cs := [_]) want_none rfl rfl (fun w => Try_Yc_fb8 _ w) hs49 (fun b51 w52 hs53 => ?_)
      refine w_append (X := (_ :: [])) (B := B1) (rows := [[_]]) (sz := 1) (bytes := 8) want_none Try.underlying37 Try_info3 rfl rfl rfl rfl rfl rfl rfl rfl rfl hs53 hown1 (sl_own (i := 0) rfl (by simp) rfl) rfl (by simp) (by simp [Value.oneCell']) (by simp only [maxLen]; omega) (by omega) (fun v54 w55 B56 ho57 hs58 => ?_)
      replace hs58 := (show St _ _ (_ :: B56 ++ (B2 ++ (B ++ (_ :: F)))) from hs58)
      refine w_pure want_none (y_assign (v := v54) rfl rfl) rfl ?_
      refine w_nil ?_
      refine q_then (hK43 _ _ ?_)
      refine w_seq (fun K60 hK59 => ?_)
      refine w_region ?_
      refine w_pure want_none (y_loadN (vs := [_, _, _]) Try.isAgg26 Try.sizeOf26 hs58.tail.drop.drop.drop rfl rfl hbx) rfl ?_
      refine w_pure want_none (y_move (v := .slice _ _ _) rfl rfl) rfl ?_
      refine w_pure want_none (y_move (v := .int _ _) rfl rfl) rfl ?_
      refine w_call want_none Try.call76 rfl rfl rfl rfl (c76 l p hm.cons.app.app.app.cons hok _ _ (Ha.ways l 0) vs hslB.top.app.app.cons helB.top.app.app.cons hwl i hi2 (fun h hh => by rw [way_len hh]; omega) (-1) hs58) ?_
      rintro _ w62 ⟨rfl, hs63⟩
      refine w_nil ?_
      refine q_then (hK59 _ _ ?_)
      refine w_cond rfl rfl (fun h64 => ?_) (fun h64 => ?_)
      ·
       try simp only [Bool.not_eq_true', Bool.not_eq_false', decide_eq_true_eq, decide_eq_false_iff_not, Int.not_lt, Int.not_le] at h64
       refine w_region ?_
       refine w_pure want_none (y_move (v := v2) rfl rfl) rfl ?_
       refine w_pure want_none (y_move (v := .int _ _) rfl rfl) rfl ?_
       refine w_bslice (ps := [(0, _)]) (pv := [(0, .int _ _)]) (cs := [_]) want_none rfl rfl (fun w => Try_Yc_fb8 _ w) hs63 (fun b65 w66 hs67 => ?_)
       refine w_append (X := (_ :: _ :: B56)) (B := B2) (rows := [[_]]) (sz := 1) (bytes := 8) want_none Try.underlying37 Try_info3 rfl rfl rfl rfl rfl rfl rfl rfl rfl hs67 hown2 (sl_own (i := 0) rfl (by simp) rfl) rfl (by simp) (by simp [Value.oneCell']) (by simp only [maxLen]; omega) (by omega) (fun v68 w69 B70 ho71 hs72 => ?_)
       replace hs72 := (show St _ _ (_ :: _ :: B56 ++ (B70 ++ (B ++ (_ :: F)))) from hs72)
       refine w_pure want_none (y_assign (v := v68) rfl rfl) rfl ?_
       refine w_nil ?_
       refine q_blk_normal ?_
       refine q_then (hK41 _ _ ?_)
       refine w_region ?_
       refine w_pure want_none (y_move (v := .int _ _) rfl rfl) rfl ?_
       refine w_pure want_none (y_add rfl rfl rfl rfl (by omega) (by omega)) rfl ?_
       refine w_pure want_none (y_assign (v := .int _ _) rfl rfl) rfl ?_
       refine w_nil ?_
       refine q_then (hN33 _ _ (Nx.intro (l.bunches.length - (i + 1)) (by omega) (by repeat (first | exact agree_mix | refine agree_upd rfl ?_ | refine agree_updL rfl ?_ _ | refine agree_mixin rfl ?_)) ?_))
       exact ⟨i + 1, _, _, B56, B70, rfl, by omega, rfl, by rw [sureR_yes (by assumption)]; exact own_snoc ho57, by rw [mayR_yes (by assumption)]; exact own_snoc ho71, hs72.tail.tail⟩
      ·
       try simp only [Bool.not_eq_true', Bool.not_eq_false', decide_eq_true_eq, decide_eq_false_iff_not, Int.not_lt, Int.not_le] at h64
       refine w_skip ?_
       refine q_blk_normal ?_
       refine q_then (hK41 _ _ ?_)
       refine w_region ?_
       refine w_pure want_none (y_move (v := .int _ _) rfl rfl) rfl ?_
       refine w_pure want_none (y_add rfl rfl rfl rfl (by omega) (by omega)) rfl ?_
       refine w_pure want_none (y_assign (v := .int _ _) rfl rfl) rfl ?_
       refine w_nil ?_
       refine q_then (hN33 _ _ (Nx.intro (l.bunches.length - (i + 1)) (by omega) (by repeat (first | exact agree_mix | refine agree_upd rfl ?_ | refine agree_updL rfl ?_ _ | refine agree_mixin rfl ?_)) ?_))
       exact ⟨i + 1, _, _, B56, B2, rfl, by omega, rfl, by rw [sureR_yes (by assumption)]; exact own_snoc ho57, by rw [mayR_no (by assumption)]; exact hown2, hs63.tail⟩
     ·
      try simp only [Bool.not_eq_true', Bool.not_eq_false', decide_eq_true_eq, decide_eq_false_iff_not, Int.not_lt, Int.not_le] at h50
      refine w_skip ?_
      refine q_then (hK43 _ _ ?_)
      refine w_seq (fun K74 hK73 => ?_)
      refine w_region ?_
      refine w_pure want_none (y_loadN (vs := [_, _, _]) Try.isAgg26 Try.sizeOf26 hs49.drop.drop.drop rfl rfl hbx) rfl ?_
      refine w_pure want_none (y_move (v := .slice _ _ _) rfl rfl) rfl ?_
      refine w_pure want_none (y_move (v := .int _ _) rfl rfl) rfl ?_
      refine w_call want_none Try.call76 rfl rfl rfl rfl (c76 l p hm.cons.app.app.app hok _ _ (Ha.ways l 0) vs hslB.top.app.app helB.top.app.app hwl i hi2 (fun h hh => by rw [way_len hh]; omega) (-1) hs49) ?_
      rintro _ w76 ⟨rfl, hs77⟩
      refine w_nil ?_
      refine q_then (hK73 _ _ ?_)
      refine w_cond rfl rfl (fun h78 => ?_) (fun h78 => ?_)
      ·
       try simp only [Bool.not_eq_true', Bool.not_eq_false', decide_eq_true_eq, decide_eq_false_iff_not, Int.not_lt, Int.not_le] at h78
       refine w_region ?_
       refine w_pure want_none (y_move (v := v2) rfl rfl) rfl ?_
       refine w_pure want_none (y_move (v := .int _ _) rfl rfl) rfl ?_
       refine w_bslice (ps := [(0, _)]) (pv := [(0, .int _ _)]) (cs := [_]) want_none rfl rfl (fun w => Try_Yc_fb8 _ w) hs77 (fun b79 w80 hs81 => ?_)
       refine w_append (X := (_ :: B1)) (B := B2) (rows := [[_]]) (sz := 1) (bytes := 8) want_none Try.underlying37 Try_info3 rfl rfl rfl rfl rfl rfl rfl rfl rfl hs81 hown2 (sl_own (i := 0) rfl (by simp) rfl) rfl (by simp) (by simp [Value.oneCell']) (by simp only [maxLen]; omega) (by omega) (fun v82 w83 B84 ho85 hs86 => ?_)
       replace hs86 := (show St _ _ (_ :: B1 ++ (B84 ++ (B ++ (_ :: F)))) from hs86)
       refine w_pure want_none (y_assign (v := v82) rfl rfl) rfl ?_
       refine w_nil ?_
       refine q_blk_normal ?_
       refine q_then (hK41 _ _ ?_)
       refine w_region ?_
       refine w_pure want_none (y_move (v := .int _ _) rfl rfl) rfl ?_
       refine w_pure want_none (y_add rfl rfl rfl rfl (by omega) (by omega)) rfl ?_
       refine w_pure want_none (y_assign (v := .int _ _) rfl rfl) rfl ?_
       refine w_nil ?_
       refine q_then (hN33 _ _ (Nx.intro (l.bunches.length - (i + 1)) (by omega) (by repeat (first | exact agree_mix | refine agree_upd rfl ?_ | refine agree_updL rfl ?_ _ | refine agree_mixin rfl ?_)) ?_))
       exact ⟨i + 1, _, _, B1, B84, rfl, by omega, rfl, by rw [sureR_no (by assumption)]; exact hown1, by rw [mayR_yes (by assumption)]; exact own_snoc ho85, hs86.tail⟩
      ·
       try simp only [Bool.not_eq_true', Bool.not_eq_false', decide_eq_true_eq, decide_eq_false_iff_not, Int.not_lt, Int.not_le] at h78
       refine w_skip ?_
       refine q_blk_normal ?_
       refine q_then (hK41 _ _ ?_)
       refine w_region ?_
       refine w_pure want_none (y_move (v := .int _ _) rfl rfl) rfl ?_
       refine w_pure want_none (y_add rfl rfl rfl rfl (by omega) (by omega)) rfl ?_
       refine w_pure want_none (y_assign (v := .int _ _) rfl rfl) rfl ?_
       refine w_nil ?_
       refine q_then (hN33 _ _ (Nx.intro (l.bunches.length - (i + 1)) (by omega) (by repeat (first | exact agree_mix | refine agree_upd rfl ?_ | refine agree_updL rfl ?_ _ | refine agree_mixin rfl ?_)) ?_))
       exact ⟨i + 1, _, _, B1, B2, rfl, by omega, rfl, by rw [sureR_no (by assumption)]; exact hown1, by rw [mayR_no (by assumption)]; exact hown2, hs77⟩
    ·
     try simp only [Bool.not_eq_true', Bool.not_eq_false', decide_eq_true_eq, decide_eq_false_iff_not, Int.not_lt, Int.not_le] at h40
     refine w_exit ?_
     refine q_then_exit ?_
     refine q_then_exit ?_
     refine q_blk_this ?_
     refine q_then (hK29 _ _ ?_)
     refine w_seq (fun K88 hK87 => ?_)
     refine w_region ?_
     refine w_pure want_none (y_move (v := v1) rfl rfl) rfl ?_
     refine w_pure want_none (y_move (v := v2) rfl rfl) rfl ?_
     refine w_pure want_none (y_assign (v := v1) rfl rfl) rfl ?_
     refine w_pure want_none (y_assign (v := v2) rfl rfl) rfl ?_
     refine w_pure want_none (y_assign (v := _) rfl rfl) rfl ?_
     refine w_nil ?_
     refine q_then (hK87 _ _ ?_)
     refine w_ret ?_
     refine q_ret (l := [.tmp 2, .tmp 3, .tmp 4]) (vs := [_, _, _]) rfl ⟨⟨rfl, show _ = (v1 : Value) from rfl⟩, ⟨rfl, show _ = (v2 : Value) from rfl⟩, ⟨rfl, show _ = (.int _ _ : Value) from rfl⟩, trivial⟩ ?_
     have hil : i = l.bunches.length := by omega
     subst hil
     have hq : refusedP l = (sureR l (Ha.ways l 0) l.bunches.length, mayR l (Ha.ways l 0) l.bunches.length, 0) := by rw [← refused_same]; unfold refusedR; rw [if_neg (by rw [← kE_chk, hee]; simp)]
     rw [hq]
     exact own_both hown1 hown2 (keep_two1 hs) 0

end Go.Proofs
/- Walks of this seat, printed by gen.py over the engine: what each function returns, in whatever world. No conditions but those of each contract. -/
set_option linter.unusedVariables false
set_option linter.unusedSimpArgs false
set_option maxRecDepth 20000
namespace Go.Proofs
open Go.Rt Go.Rt.Ha
attribute [local irreducible] WL WC Con Yd At Ats Sl Agree DW

theorem ref_short (l : Lot) : (refusedP l).1.length ≤ 6 ∧ (refusedP l).2.1.length ≤ 6 := by
  unfold refusedP
  split
  · simp
  · rename_i h
    have hok := check_ok (enterE_zero (Decidable.not_not.1 h)).1
    have h1 := hok.lb
    have h2 := sure_len l (Ha.ways l 0) l.bunches.length
    have h3 := may_len l (Ha.ways l 0) l.bunches.length
    exact ⟨by dsimp only; omega, by dsimp only; omega⟩
theorem c5 {w0 w : World} {F : List (Nat × Obj)} (l : Lot) (p : At3) (hm : LIn w0 F l p) (g : Int) (hg : -9223372036854775808 ≤ g ∧ g ≤ 9223372036854775807) (hs : St w0 w F) :
  Con Try.prog 5 [.agg (l.cells p).toArray, .int .i64 g] w fun v w' => v = .bool true ∧ St w0 w' F := by
  refine con_of_wc (n := 61) Try.func5 rfl rfl (Nat.le_of_ble_eq_true rfl) ?_
  refine w_seq (fun K2 hK1 => ?_)
  refine w_region ?_
  refine w_box (v := .agg #[.slice _ _ _, .slice _ _ _, .slice _ _ _]) (cs := [_, _, _]) want_none rfl rfl rfl hs (fun b3 w4 hs5 => ?_)
  refine w_pure want_none (y_assign (v := _) rfl rfl) rfl ?_
  refine w_nil ?_
  refine q_then (hK1 _ _ ?_)
  refine w_seq (fun K7 hK6 => ?_)
  have hbx := ats_of (i := 0) (vs := l.cells p) hs5 rfl rfl
  refine w_region ?_
  refine w_pure want_none (y_loadN (vs := [_, _, _]) Try.isAgg26 Try.sizeOf26 hs5 rfl rfl hbx) rfl ?_
  refine w_pure want_none (y_move (v := .int _ _) rfl rfl) rfl ?_
  refine w_call want_none Try.call26 rfl rfl rfl rfl (c26 l _ hm.cons g hs5) ?_
  rintro _ w9 ⟨rfl, hs10⟩
  refine w_pure want_none (y_move (v := .tuple _) rfl rfl) rfl ?_
  refine w_pure want_none (y_extract (v := .agg _) rfl rfl rfl) rfl ?_
  refine w_pure want_none (y_extract (v := .int _ _) rfl rfl rfl) rfl ?_
  refine w_alloc (cs := [_, _]) want_none Try.zeroValue34 rfl hs10 (fun b11 w12 hs13 => ?_)
  refine w_store (i := 0) (v := .agg #[.int _ _, .int _ _]) (vs := [_, _]) want_none Try.sizeOf34 rfl rfl rfl rfl rfl (by simp [Value.oneCell']) hs13 rfl (Nat.le_of_ble_eq_true rfl) (fun w14 hs15 => ?_)
  refine w_pure want_none (y_assign (v := .int _ _) rfl rfl) rfl ?_
  refine w_nil ?_
  refine q_then (hK6 _ _ ?_)
  refine w_seq (fun K17 hK16 => ?_)
  refine w_region ?_
  refine w_pure want_none (y_loadN (vs := [_, _, _]) Try.isAgg26 Try.sizeOf26 hs15.tail rfl rfl hbx) rfl ?_
  refine w_pure want_none (y_move (v := .int _ _) rfl rfl) rfl ?_
  refine w_call want_none Try.call27 rfl rfl rfl rfl (c27 l _ hm.cons.cons g hs15) ?_
  rintro _ w19 ⟨rfl, hs20⟩
  refine w_pure want_none (y_move (v := .tuple _) rfl rfl) rfl ?_
  refine w_pure want_none (y_extract (v := .agg _) rfl rfl rfl) rfl ?_
  refine w_pure want_none (y_extract (v := .int _ _) rfl rfl rfl) rfl ?_
  refine w_alloc (cs := [_, _]) want_none Try.zeroValue34 rfl hs20 (fun b21 w22 hs23 => ?_)
  refine w_store (i := 0) (v := .agg #[.int _ _, .int _ _]) (vs := [_, _]) want_none Try.sizeOf34 rfl rfl rfl rfl rfl (by simp [Value.oneCell']) hs23 rfl (Nat.le_of_ble_eq_true rfl) (fun w24 hs25 => ?_)
  refine w_pure want_none (y_assign (v := .int _ _) rfl rfl) rfl ?_
  refine w_nil ?_
  refine q_then (hK16 _ _ ?_)
  refine w_seq (fun K27 hK26 => ?_)
  refine w_seq (fun K29 hK28 => ?_)
  refine w_region ?_
  refine w_pure want_none (y_loadN (vs := [_, _]) Try.isAgg34 Try.sizeOf34 hs25 rfl rfl (ats_own (i := 1) (vs := [_, _]) rfl rfl)) rfl ?_
  refine w_pure want_none (y_loadN (vs := [_, _]) Try.isAgg34 Try.sizeOf34 hs25 rfl rfl (ats_own (i := 0) (vs := [_, _]) rfl rfl)) rfl ?_
  refine w_pure want_none (y_neFlat (l := [_, _]) (m := [_, _]) Try.eqGuardType34 Try_flat34 (by first | omega | rfl | (simp only [List.length_map, List.length_set, List.length_append, List.length_take, List.length_drop, List.length_replicate, List.length_cons, List.length_nil] <;> omega)) (by first | omega | rfl | (simp only [List.length_map, List.length_set, List.length_append, List.length_take, List.length_drop, List.length_replicate, List.length_cons, List.length_nil] <;> omega)) rfl rfl rfl rfl rfl rfl) rfl ?_
  refine w_pure want_none (y_move (v := .bool _) rfl rfl) rfl ?_
  refine w_split (fun h30 => ?_) (fun h30 => ?_)
  ·
   exfalso; simp at h30
  ·
   try simp only [Bool.not_eq_true', Bool.not_eq_false', decide_eq_true_eq, decide_eq_false_iff_not, Int.not_lt, Int.not_le] at h30
   refine w_pure (want_yes rfl rfl rfl) (y_move (v := .int _ _) rfl rfl) rfl ?_
   refine w_pure (want_yes rfl rfl rfl) (y_move (v := .int _ _) rfl rfl) rfl ?_
   refine w_pure (want_yes rfl rfl rfl) (y_neq rfl rfl rfl rfl) rfl ?_
   refine w_pure want_none (y_pickF (v := .bool _) rfl rfl rfl rfl) rfl ?_
   refine w_nil ?_
   refine q_then (hK28 _ _ ?_)
   refine w_cond rfl rfl (fun h31 => ?_) (fun h31 => ?_)
   ·
    exfalso; simp at h31
   ·
    try simp only [Bool.not_eq_true', Bool.not_eq_false', decide_eq_true_eq, decide_eq_false_iff_not, Int.not_lt, Int.not_le] at h31
    refine w_skip ?_
    refine q_then (hK26 _ _ ?_)
    refine w_seq (fun K33 hK32 => ?_)
    refine w_region ?_
    refine w_pure want_none (y_loadN (vs := [_, _, _]) Try.isAgg26 Try.sizeOf26 hs25.tail.tail rfl rfl hbx) rfl ?_
    refine w_call want_none Try.call28 rfl rfl rfl rfl (c28 l _ hm.cons.cons.cons hs25) ?_
    rintro _ w35 ⟨B1, a1, c1, a12, c12, rfl, hq1, hr1, hs36⟩
    replace hs36 := (show St _ _ (B1 ++ (_ :: _ :: _ :: F)) from hs36)
    refine w_pure want_none (y_move (v := .tuple _) rfl rfl) rfl ?_
    refine w_pure want_none (y_extract (v := .slice _ _ _) rfl rfl rfl) rfl ?_
    refine w_pure want_none (y_extract (v := .slice _ _ _) rfl rfl rfl) rfl ?_
    refine w_pure want_none (y_extract (v := .int _ _) rfl rfl rfl) rfl ?_
    refine w_pure want_none (y_assign (v := .slice _ _ _) rfl rfl) rfl ?_
    refine w_pure want_none (y_assign (v := .slice _ _ _) rfl rfl) rfl ?_
    refine w_pure want_none (y_assign (v := .int _ _) rfl rfl) rfl ?_
    refine w_nil ?_
    refine q_then (hK32 _ _ ?_)
    refine w_seq (fun K38 hK37 => ?_)
    refine w_region ?_
    refine w_pure want_none (y_loadN (vs := [_, _, _]) Try.isAgg26 Try.sizeOf26 hs36.drop.tail.tail rfl rfl hbx) rfl ?_
    refine w_call want_none Try.call29 rfl rfl rfl rfl (c29 l _ hm.cons.cons.cons.app hs36) ?_
    rintro _ w40 ⟨B2, a2, c2, a22, c22, rfl, hq2, hr2, hs41⟩
    replace hs41 := (show St _ _ (B2 ++ (B1 ++ (_ :: _ :: _ :: F))) from hs41)
    refine w_pure want_none (y_move (v := .tuple _) rfl rfl) rfl ?_
    refine w_pure want_none (y_extract (v := .slice _ _ _) rfl rfl rfl) rfl ?_
    refine w_pure want_none (y_extract (v := .slice _ _ _) rfl rfl rfl) rfl ?_
    refine w_pure want_none (y_extract (v := .int _ _) rfl rfl rfl) rfl ?_
    refine w_pure want_none (y_assign (v := .slice _ _ _) rfl rfl) rfl ?_
    refine w_pure want_none (y_assign (v := .slice _ _ _) rfl rfl) rfl ?_
    refine w_pure want_none (y_assign (v := .int _ _) rfl rfl) rfl ?_
    refine w_nil ?_
    refine q_then (hK37 _ _ ?_)
    refine w_seq (fun K43 hK42 => ?_)
    refine w_region ?_
    refine w_pure want_none (y_move (v := .slice _ _ _) rfl rfl) rfl ?_
    refine w_pure want_none (y_move (v := .slice _ _ _) rfl rfl) rfl ?_
    refine w_call want_none Try.call25 rfl rfl rfl rfl (c25 _ _ (refusedP l).1 (refusedP l).1 _ _ (by have := (ref_short l).1; omega) hq1.top.app hq2.top hs41) ?_
    rintro _ w45 ⟨rfl, hs46⟩
    refine w_pure want_none (y_move (v := .bool _) rfl rfl) rfl ?_
    refine w_split (fun h47 => ?_) (fun h47 => ?_)
    ·
     try simp only [Bool.not_eq_true', Bool.not_eq_false', decide_eq_true_eq, decide_eq_false_iff_not, Int.not_lt, Int.not_le] at h47
     refine w_pure (want_yes rfl rfl rfl) (y_move (v := .slice _ _ _) rfl rfl) rfl ?_
     refine w_pure (want_yes rfl rfl rfl) (y_move (v := .slice _ _ _) rfl rfl) rfl ?_
     refine w_call (want_yes rfl rfl rfl) Try.call25 rfl rfl rfl rfl (c25 _ _ (refusedP l).2.1 (refusedP l).2.1 _ _ (by have := (ref_short l).2; omega) hr1.top.app hr2.top hs46) ?_
     rintro _ w49 ⟨rfl, hs50⟩
     refine w_pure want_none (y_pickT (v := .bool _) rfl rfl rfl rfl) rfl ?_
     refine w_pure want_none (y_move (v := .bool _) rfl rfl) rfl ?_
     refine w_split (fun h51 => ?_) (fun h51 => ?_)
     ·
      try simp only [Bool.not_eq_true', Bool.not_eq_false', decide_eq_true_eq, decide_eq_false_iff_not, Int.not_lt, Int.not_le] at h51
      refine w_pure (want_yes rfl rfl rfl) (y_move (v := .int _ _) rfl rfl) rfl ?_
      refine w_pure (want_yes rfl rfl rfl) (y_move (v := .int _ _) rfl rfl) rfl ?_
      refine w_pure (want_yes rfl rfl rfl) (y_eql rfl rfl rfl rfl) rfl ?_
      refine w_pure want_none (y_pickT (v := .bool _) rfl rfl rfl rfl) rfl ?_
      refine w_pure want_none (y_move (v := .bool _) rfl rfl) rfl ?_
      refine w_split (fun h52 => ?_) (fun h52 => ?_)
      ·
       try simp only [Bool.not_eq_true', Bool.not_eq_false', decide_eq_true_eq, decide_eq_false_iff_not, Int.not_lt, Int.not_le] at h52
       refine w_call (want_yes rfl rfl rfl) Try.call20 rfl rfl rfl rfl (c20 hs50) ?_
       rintro _ w54 ⟨rfl, hs55⟩
       refine w_pure want_none (y_pickT (v := .bool _) rfl rfl rfl rfl) rfl ?_
       refine w_pure want_none (y_assign (v := .bool _) rfl rfl) rfl ?_
       refine w_nil ?_
       refine q_then (hK42 _ _ ?_)
       refine w_ret ?_
       refine q_ret (l := [.tmp 4]) (vs := [_]) rfl ⟨⟨rfl, show _ = (.bool _ : Value) from rfl⟩, trivial⟩ ?_
       exact ⟨rfl, hs55.drop.drop.tail.tail.tail⟩
      ·
       exfalso; simp at h52
     ·
      exfalso; simp at h51
    ·
     exfalso; simp at h47

end Go.Proofs
