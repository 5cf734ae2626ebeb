/- Own texts of this claim, joined. No conditions. -/
import Derived.Test.YtiemgahjdgajmaaHHandNextsa
import Derived.Test.YtiemgahjdgajmaaHHandNextsb
import Derived.Test.YtiemgahjdgajmaaHHandNextsc
import Derived.Test.YtiemgahjdgajmaaHHandNextsd
import Derived.Test.YtiemgahjdgajmaaHHandNextse
import Derived.Test.YtiemgahjdgajmaaHHandNextsf
/- Walks of this seat, printed by gen.py over the engine: what each function returns, in whatever world. No conditions but those of each contract. -/
set_option linter.unusedVariables false
set_option linter.unusedSimpArgs false
set_option maxRecDepth 20000
namespace Go.Proofs
open Go.Rt Go.Rt.Ha
attribute [local irreducible] WL WC Con Yd At Ats Sl Agree DW
theorem Try_U_fb5 (x0 : Int) (w : World) : (Instr.buildSlice 37 1 [(0, .int .i64 x0)].toArray).run Try.prog w = .ok (.slice (some ⟨w.heap.size, 0, none⟩) 1 1) (w.alloc (Go.Rt.blk 3 [.int .i64 x0])) := by kernel_rfl
theorem ats_ofR {w0 w : World} {L : List (Nat × Obj)} {i b : Nat} {t : TypeId} {cs vs : List Value} (hs : St w0 w L) (hi : L[i]? = some (b, blk t cs)) (h : (cs.drop 0).take vs.length = vs) : Ats w0 L b 0 vs := ats_own hi h
theorem bi2 {a b : Bool} {c d : Int} (h : a = b) (k : c = d) : [Value.bool a, Value.int .i64 c] = [Value.bool b, Value.int .i64 d] := by rw [h, k]
theorem sl_u8 {w0 : World} {F : List (Nat × Obj)} {a : Option Addr} {l : List Int} {i : Nat} (h : Sl w0 F a 1 (l.map fun x => [Value.int .u8 x])) (hi : i < l.length) :
    ∃ b off, a = some ⟨b, off, none⟩ ∧ Ats w0 F b (off + i * 1) [.int .u8 l[i]] := by
  obtain ⟨b, off, ha, _, hat⟩ := h.at (i := i) (row := [.int .u8 l[i]]) (by simp [hi])
  exact ⟨b, off, ha, hat⟩
theorem c94 {w0 w : World} {F : List (Nat × Obj)} (ax : Option Addr) (cx : Nat) (x : List Int) (hxl : x.length ≤ 9223372036854775807) (hxs : Sl w0 F ax 1 (x.map fun n => [Value.int .u8 n])) (hxr : ∀ z ∈ x, 0 ≤ z ∧ z ≤ 255) (n : Nat) (hs : St w0 w F) : Con Try.prog 94 [.slice ax x.length cx, .int .i64 (n : Int)] w fun v w' => v = .int .i64 (turnOf x n) ∧ St w0 w' F := by
  refine con_of_wc (n := 16) Try.func94 rfl rfl (Nat.le_of_ble_eq_true rfl) ?_
  refine w_seq (fun K2 hK1 => ?_)
  refine w_region ?_
  refine w_pure want_none (y_assign (v := _) rfl rfl) rfl ?_
  refine w_nil ?_
  refine q_then (hK1 _ _ ?_)
  refine w_seq (fun K4 hK3 => ?_)
  refine w_seq (fun K6 hK5 => ?_)
  refine w_region ?_
  refine w_pure want_none (y_move (v := .slice _ _ _) rfl rfl) rfl ?_
  refine w_pure want_none (y_lenS Try.underlying54 rfl rfl) rfl ?_
  refine w_pure want_none (y_eql rfl rfl rfl rfl) rfl ?_
  refine w_nil ?_
  refine q_then (hK5 _ _ ?_)
  refine w_cond rfl rfl (fun h7 => ?_) (fun h7 => ?_)
  ·
   try simp only [Bool.not_eq_true', Bool.not_eq_false', decide_eq_true_eq, decide_eq_false_iff_not, Int.not_lt, Int.not_le] at h7
   refine w_seq (fun K9 hK8 => ?_)
   refine w_region ?_
   refine w_pure want_none (y_assign (v := _) rfl rfl) rfl ?_
   refine w_nil ?_
   refine q_then (hK8 _ _ ?_)
   refine w_ret ?_
   refine q_then_ret ?_
   refine q_ret (l := [.tmp 4]) (vs := [_]) rfl ⟨⟨rfl, show _ = (.int _ _ : Value) from rfl⟩, trivial⟩ ?_
   first
     | exact ⟨congrArg (Value.int .i64) (by unfold turnOf; rw [if_pos (by omega)]), hs⟩
     | exact ⟨congrArg (Value.int .i64) (turn_at hx0), hs⟩
  ·
   try simp only [Bool.not_eq_true', Bool.not_eq_false', decide_eq_true_eq, decide_eq_false_iff_not, Int.not_lt, Int.not_le] at h7
   refine w_skip ?_
   refine q_then (hK3 _ _ ?_)
   refine w_seq (fun K11 hK10 => ?_)
   have hx0 : 0 < x.length := by omega
   have hm := Nat.mod_lt n hx0
   obtain ⟨bx, ox, rfl, hx⟩ := sl_u8 hxs hm
   have hr := hxr _ (List.getElem_mem hm)
   refine w_region ?_
   refine w_pure want_none (y_move (v := .slice _ _ _) rfl rfl) rfl ?_
   refine w_pure want_none (y_move (v := .int _ _) rfl rfl) rfl ?_
   refine w_pure want_none (y_move (v := .slice _ _ _) rfl rfl) rfl ?_
   refine w_pure want_none (y_lenS Try.underlying54 rfl rfl) rfl ?_
   refine w_pure want_none (y_rem rfl rfl rfl rfl (by omega) (by omega)) rfl ?_
   refine w_pure want_none (y_indexS Try.underlying54 Try.sizeOf5 rfl rfl rfl rfl (i := n % x.length) (by simp) hm) rfl ?_
   refine w_pure want_none (y_load1 Try.isAgg5 hs rfl rfl hx) rfl ?_
   refine w_pure want_none (y_u8int (by rw [Try.underlying5]; rfl) Try.underlying3 rfl rfl (by omega) (by omega)) rfl ?_
   refine w_pure want_none (y_assign (v := .int _ _) rfl rfl) rfl ?_
   refine w_nil ?_
   refine q_then (hK10 _ _ ?_)
   refine w_ret ?_
   refine q_ret (l := [.tmp 4]) (vs := [_]) rfl ⟨⟨rfl, show _ = (.int _ _ : Value) from rfl⟩, trivial⟩ ?_
   first
     | exact ⟨congrArg (Value.int .i64) (by unfold turnOf; rw [if_pos (by omega)]), hs⟩
     | exact ⟨congrArg (Value.int .i64) (turn_at hx0), hs⟩

theorem c47 {w0 w : World} {F : List (Nat × Obj)} (b n : Nat) (hb : b ≤ 9223372036854775807) (hn : n ≤ 9223372036854775807) (hs : St w0 w F) : Con Try.prog 47 [.int .i64 (b : Int), .int .i64 (n : Int)] w fun v w' => v = .bool (decide ((((b >>> n : Nat) : Int)) % 2 = 1)) ∧ St w0 w' F := by
  refine con_of_wc (n := 16) Try.func47 rfl rfl (Nat.le_of_ble_eq_true rfl) ?_
  refine w_seq (fun K2 hK1 => ?_)
  refine w_region ?_
  refine w_pure want_none (y_assign (v := _) rfl rfl) rfl ?_
  refine w_nil ?_
  refine q_then (hK1 _ _ ?_)
  refine w_seq (fun K4 hK3 => ?_)
  refine w_seq (fun K6 hK5 => ?_)
  refine w_region ?_
  refine w_pure want_none (y_assign (v := _) rfl rfl) rfl ?_
  refine w_nil ?_
  refine q_then (hK5 _ _ ?_)
  refine w_block ?_
  refine w_loop [0, 5, 6, 7, 8, 9, 10, 11, 12] [0, 5] (fun k vs w => ∃ i : Nat, vs = [.int .i64 ((b >>> i : Nat) : Int), .int .i64 i] ∧ i ≤ n ∧ k = n - i ∧ St w0 w F) (n) ?_ ?_
  ·
   exact ⟨0, rfl, by omega, by omega, hs⟩
  ·
   intro k vs μ w9 hI K8 hN7
   obtain ⟨i, rfl, hia, rfl, hs⟩ := hI
   have hsl := shr_le b i
   have hsl0 : (0 : Int) ≤ ((b >>> i : Nat) : Int) := Int.natCast_nonneg _
   refine w_seq (fun K11 hK10 => ?_)
   refine w_seq (fun K13 hK12 => ?_)
   refine w_region ?_
   refine w_pure want_none (y_move (v := .int _ _) rfl rfl) rfl ?_
   refine w_pure want_none (y_move (v := .int _ _) rfl rfl) rfl ?_
   refine w_pure want_none (y_lss rfl rfl rfl rfl) rfl ?_
   refine w_nil ?_
   refine q_then (hK12 _ _ ?_)
   refine w_cond rfl rfl (fun h14 => ?_) (fun h14 => ?_)
   ·
    try simp only [Bool.not_eq_true', Bool.not_eq_false', decide_eq_true_eq, decide_eq_false_iff_not, Int.not_lt, Int.not_le] at h14
    refine w_skip ?_
    refine q_then (hK10 _ _ ?_)
    refine w_seq (fun K16 hK15 => ?_)
    refine w_block ?_
    refine w_region ?_
    refine w_pure want_none (y_move (v := .int _ _) rfl rfl) rfl ?_
    refine w_pure want_none (y_quo rfl rfl rfl rfl (by omega) (by omega) (by omega)) rfl ?_
    refine w_pure want_none (y_assign (v := .int _ _) rfl rfl) rfl ?_
    refine w_nil ?_
    refine q_blk_normal ?_
    refine q_then (hK15 _ _ ?_)
    refine w_region ?_
    refine w_pure want_none (y_move (v := .int _ _) rfl rfl) rfl ?_
    refine w_pure want_none (y_add rfl rfl rfl rfl (by omega) (by omega)) rfl ?_
    refine w_pure want_none (y_assign (v := .int _ _) rfl rfl) rfl ?_
    refine w_nil ?_
    refine q_then (hN7 _ _ (Nx.intro (n - (i + 1)) (by omega) (by repeat (first | exact agree_mix | refine agree_upd rfl ?_ | refine agree_updL rfl ?_ _ | refine agree_mixin rfl ?_)) ?_))
    exact ⟨i + 1, by rw [← shr_half]; rfl, by omega, rfl, hs⟩
   ·
    try simp only [Bool.not_eq_true', Bool.not_eq_false', decide_eq_true_eq, decide_eq_false_iff_not, Int.not_lt, Int.not_le] at h14
    refine w_exit ?_
    refine q_then_exit ?_
    refine q_then_exit ?_
    refine q_blk_this ?_
    refine q_then (hK3 _ _ ?_)
    refine w_seq (fun K18 hK17 => ?_)
    refine w_region ?_
    refine w_pure want_none (y_move (v := .int _ _) rfl rfl) rfl ?_
    refine w_pure want_none (y_rem rfl rfl rfl rfl (by omega) (by omega)) rfl ?_
    refine w_pure want_none (y_eql rfl rfl rfl rfl) rfl ?_
    refine w_pure want_none (y_assign (v := .bool _) rfl rfl) rfl ?_
    refine w_nil ?_
    refine q_then (hK17 _ _ ?_)
    refine w_ret ?_
    refine q_ret (l := [.tmp 4]) (vs := [_]) rfl ⟨⟨rfl, show _ = (.bool _ : Value) from rfl⟩, trivial⟩ ?_
    have hin : i = n := by omega
    subst hin
    exact ⟨rfl, hs⟩

theorem c50 {w0 w : World} {F : List (Nat × Obj)} (aa ab : Option Addr) (a b : List Int) (ca cb : Nat) (hla : a.length ≤ 9223372036854775807) (ha : Sl w0 F aa 1 (a.map fun x => [Value.int .i64 x])) (hb : Sl w0 F ab 1 (b.map fun x => [Value.int .i64 x])) (hs : St w0 w F) : Con Try.prog 50 [.slice aa a.length ca, .slice ab b.length cb] w fun v w' => v = .bool (if a.length = b.length then less a b else decide (a.length < b.length)) ∧ St w0 w' F := by
  refine con_of_wc (n := 18) Try.func50 rfl rfl (Nat.le_of_ble_eq_true rfl) ?_
  refine w_seq (fun K2 hK1 => ?_)
  refine w_region ?_
  refine w_pure want_none (y_assign (v := _) rfl rfl) rfl ?_
  refine w_nil ?_
  refine q_then (hK1 _ _ ?_)
  refine w_seq (fun K4 hK3 => ?_)
  refine w_seq (fun K6 hK5 => ?_)
  refine w_region ?_
  refine w_pure want_none (y_move (v := .slice _ _ _) rfl rfl) rfl ?_
  refine w_pure want_none (y_lenS Try.underlying37 rfl rfl) rfl ?_
  refine w_pure want_none (y_move (v := .slice _ _ _) rfl rfl) rfl ?_
  refine w_pure want_none (y_lenS Try.underlying37 rfl rfl) rfl ?_
  refine w_pure want_none (y_neq rfl rfl rfl rfl) rfl ?_
  refine w_nil ?_
  refine q_then (hK5 _ _ ?_)
  refine w_cond rfl rfl (fun h7 => ?_) (fun h7 => ?_)
  ·
   try simp only [Bool.not_eq_true', Bool.not_eq_false', decide_eq_true_eq, decide_eq_false_iff_not, Int.not_lt, Int.not_le] at h7
   refine w_seq (fun K9 hK8 => ?_)
   refine w_region ?_
   refine w_pure want_none (y_move (v := .slice _ _ _) rfl rfl) rfl ?_
   refine w_pure want_none (y_lenS Try.underlying37 rfl rfl) rfl ?_
   refine w_pure want_none (y_move (v := .slice _ _ _) rfl rfl) rfl ?_
   refine w_pure want_none (y_lenS Try.underlying37 rfl rfl) rfl ?_
   refine w_pure want_none (y_lss rfl rfl rfl rfl) rfl ?_
   refine w_pure want_none (y_assign (v := .bool _) rfl rfl) rfl ?_
   refine w_nil ?_
   refine q_then (hK8 _ _ ?_)
   refine w_ret ?_
   refine q_then_ret ?_
   refine q_ret (l := [.tmp 4]) (vs := [_]) rfl ⟨⟨rfl, show _ = (.bool _ : Value) from rfl⟩, trivial⟩ ?_
   first
     | exact ⟨congrArg Value.bool (by rw [if_neg (by omega)]; rw [Bool.eq_iff_iff]; simp), hs⟩
     | exact ⟨congrArg Value.bool (by rw [if_pos (by omega)]), hs⟩
  ·
   try simp only [Bool.not_eq_true', Bool.not_eq_false', decide_eq_true_eq, decide_eq_false_iff_not, Int.not_lt, Int.not_le] at h7
   refine w_skip ?_
   refine q_then (hK3 _ _ ?_)
   refine w_seq (fun K11 hK10 => ?_)
   refine w_region ?_
   refine w_pure want_none (y_move (v := .slice _ _ _) rfl rfl) rfl ?_
   refine w_pure want_none (y_move (v := .slice _ _ _) rfl rfl) rfl ?_
   refine w_call want_none Try.call77 rfl rfl rfl rfl (c77 _ _ _ _ _ _ (by omega) (by assumption) (by assumption) hs) ?_
   rintro _ w13 ⟨rfl, hs14⟩
   refine w_pure want_none (y_assign (v := .bool _) rfl rfl) rfl ?_
   refine w_nil ?_
   refine q_then (hK10 _ _ ?_)
   refine w_ret ?_
   refine q_ret (l := [.tmp 4]) (vs := [_]) rfl ⟨⟨rfl, show _ = (.bool _ : Value) from rfl⟩, trivial⟩ ?_
   first
     | exact ⟨congrArg Value.bool (by rw [if_neg (by omega)]; rw [Bool.eq_iff_iff]; simp), hs14⟩
     | exact ⟨congrArg Value.bool (by rw [if_pos (by omega)]), hs14⟩

theorem bit_con {w0 w : World} {F : List (Nat × Obj)} (z : Int) (n : Nat) (hz : 0 ≤ z) (hz2 : z ≤ 9223372036854775807) (hn : n ≤ 9223372036854775807) (hs : St w0 w F) : Con Try.prog 47 [.int .i64 z, .int .i64 (n : Int)] w fun v w' => v = .bool (decide (bit z.toNat n = 1)) ∧ St w0 w' F := by
  have h := c47 z.toNat n (by omega) hn hs
  rw [Int.toNat_of_nonneg hz, bit_dec] at h
  exact h
theorem c43 {w0 w : World} {F : List (Nat × Obj)} (al : Option Addr) (cl : Nat) (l : List Int) (hll : l.length ≤ 9223372036854775807) (hl : Sl w0 F al 1 (l.map fun x => [Value.int .i64 x])) (z : Int) (hs : St w0 w F) :
  Con Try.prog 43 [.slice al l.length cl, .int .i64 z] w fun v w' => v = .bool (hasI l z) ∧ St w0 w' F := by
  refine con_of_wc (n := 23) Try.func43 rfl rfl (Nat.le_of_ble_eq_true rfl) ?_
  refine w_seq (fun K2 hK1 => ?_)
  refine w_region ?_
  refine w_pure want_none (y_assign (v := _) rfl rfl) rfl ?_
  refine w_nil ?_
  refine q_then (hK1 _ _ ?_)
  refine w_seq (fun K4 hK3 => ?_)
  refine w_region ?_
  refine w_pure want_none (y_assign (v := _) rfl rfl) rfl ?_
  refine w_nil ?_
  refine q_then (hK3 _ _ ?_)
  refine w_seq (fun K6 hK5 => ?_)
  refine w_seq (fun K8 hK7 => ?_)
  refine w_region ?_
  refine w_pure want_none (y_assign (v := _) rfl rfl) rfl ?_
  refine w_nil ?_
  refine q_then (hK7 _ _ ?_)
  refine w_block ?_
  refine w_loop [5, 6, 7, 8, 9, 10, 11, 12, 13, 14, 15, 16, 17, 18, 19, 20, 21] [5, 6] (fun k vs w => ∃ i : Nat, vs = [.bool (hasI (l.take i) z), .int .i64 i] ∧ i ≤ l.length ∧ k = l.length - i ∧ St w0 w F) (l.length) ?_ ?_
  ·
   exact ⟨0, rfl, by omega, by omega, hs⟩
  ·
   intro k vs μ w11 hI K10 hN9
   obtain ⟨i, rfl, hia, rfl, hs⟩ := hI
   generalize hb : hasI (l.take i) z = b
   refine w_seq (fun K13 hK12 => ?_)
   refine w_seq (fun K15 hK14 => ?_)
   refine w_region ?_
   refine w_pure want_none (y_move (v := .int _ _) rfl rfl) rfl ?_
   refine w_pure want_none (y_move (v := .slice _ _ _) rfl rfl) rfl ?_
   refine w_pure want_none (y_lenS Try.underlying37 rfl rfl) rfl ?_
   refine w_pure want_none (y_lss rfl rfl rfl rfl) rfl ?_
   refine w_nil ?_
   refine q_then (hK14 _ _ ?_)
   refine w_cond rfl rfl (fun h16 => ?_) (fun h16 => ?_)
   ·
    try simp only [Bool.not_eq_true', Bool.not_eq_false', decide_eq_true_eq, decide_eq_false_iff_not, Int.not_lt, Int.not_le] at h16
    refine w_skip ?_
    refine q_then (hK12 _ _ ?_)
    refine w_seq (fun K18 hK17 => ?_)
    refine w_block ?_
    have hi2 : i < l.length := by omega
    obtain ⟨bx, ox, hbx, hx⟩ := sl_ints hl hi2
    subst hbx
    refine w_region ?_
    refine w_pure want_none (y_move (v := .bool _) rfl rfl) rfl ?_
    refine w_pure want_none (y_move (v := .bool _) rfl rfl) rfl ?_
    refine w_split (fun h19 => ?_) (fun h19 => ?_)
    ·
     subst h19
     refine w_skipop rfl rfl rfl ?_
     refine w_skipop rfl rfl rfl ?_
     refine w_skipop rfl rfl rfl ?_
     refine w_skipop rfl rfl rfl ?_
     refine w_skipop rfl rfl rfl ?_
     refine w_skipop rfl rfl rfl ?_
     refine w_pure want_none (y_pickT (v := _) rfl rfl rfl rfl) rfl ?_
     refine w_pure want_none (y_assign (v := .bool _) rfl rfl) rfl ?_
     refine w_nil ?_
     refine q_blk_normal ?_
     refine q_then (hK17 _ _ ?_)
     refine w_region ?_
     refine w_pure want_none (y_move (v := .int _ _) rfl rfl) rfl ?_
     refine w_pure want_none (y_add rfl rfl rfl rfl (by omega) (by omega)) rfl ?_
     refine w_pure want_none (y_assign (v := .int _ _) rfl rfl) rfl ?_
     refine w_nil ?_
     refine q_then (hN9 _ _ (Nx.intro (l.length - (i + 1)) (by omega) (by repeat (first | exact agree_mix | refine agree_upd rfl ?_ | refine agree_updL rfl ?_ _ | refine agree_mixin rfl ?_)) ?_))
     first
       | exact ⟨i + 1, bi2 (by rw [hasI_succ hi2, hb]; simp) rfl, by omega, rfl, hs⟩
       | exact ⟨i + 1, bi2 (by rw [hasI_succ hi2, hb]; rfl) rfl, by omega, rfl, hs⟩
    ·
     subst h19
     refine w_pure (want_yes rfl rfl rfl) (y_move (v := .slice _ _ _) rfl rfl) rfl ?_
     refine w_pure (want_yes rfl rfl rfl) (y_move (v := .int _ _) rfl rfl) rfl ?_
     refine w_pure (want_yes rfl rfl rfl) (y_indexS Try.underlying37 Try.sizeOf3 rfl rfl rfl rfl (i := _) rfl (by omega)) rfl ?_
     refine w_pure (want_yes rfl rfl rfl) (y_load1 Try.isAgg3 hs rfl rfl hx) rfl ?_
     refine w_pure (want_yes rfl rfl rfl) (y_move (v := .int _ _) rfl rfl) rfl ?_
     refine w_pure (want_yes rfl rfl rfl) (y_eql rfl rfl rfl rfl) rfl ?_
     refine w_pure want_none (y_pickF (v := .bool _) rfl rfl rfl rfl) rfl ?_
     refine w_pure want_none (y_assign (v := .bool _) rfl rfl) rfl ?_
     refine w_nil ?_
     refine q_blk_normal ?_
     refine q_then (hK17 _ _ ?_)
     refine w_region ?_
     refine w_pure want_none (y_move (v := .int _ _) rfl rfl) rfl ?_
     refine w_pure want_none (y_add rfl rfl rfl rfl (by omega) (by omega)) rfl ?_
     refine w_pure want_none (y_assign (v := .int _ _) rfl rfl) rfl ?_
     refine w_nil ?_
     refine q_then (hN9 _ _ (Nx.intro (l.length - (i + 1)) (by omega) (by repeat (first | exact agree_mix | refine agree_upd rfl ?_ | refine agree_updL rfl ?_ _ | refine agree_mixin rfl ?_)) ?_))
     first
       | exact ⟨i + 1, bi2 (by rw [hasI_succ hi2, hb]; simp) rfl, by omega, rfl, hs⟩
       | exact ⟨i + 1, bi2 (by rw [hasI_succ hi2, hb]; rfl) rfl, by omega, rfl, hs⟩
   ·
    try simp only [Bool.not_eq_true', Bool.not_eq_false', decide_eq_true_eq, decide_eq_false_iff_not, Int.not_lt, Int.not_le] at h16
    refine w_exit ?_
    refine q_then_exit ?_
    refine q_then_exit ?_
    refine q_blk_this ?_
    refine q_then (hK5 _ _ ?_)
    refine w_seq (fun K21 hK20 => ?_)
    refine w_region ?_
    refine w_pure want_none (y_move (v := .bool _) rfl rfl) rfl ?_
    refine w_pure want_none (y_assign (v := .bool _) rfl rfl) rfl ?_
    refine w_nil ?_
    refine q_then (hK20 _ _ ?_)
    refine w_ret ?_
    refine q_ret (l := [.tmp 4]) (vs := [_]) rfl ⟨⟨rfl, show _ = (.bool _ : Value) from rfl⟩, trivial⟩ ?_
    exact ⟨congrArg Value.bool (by have hil : i = l.length := (by omega); subst hil; rw [List.take_length] at hb; exact hb.symm), hs⟩

theorem c93 {w0 w : World} {F : List (Nat × Obj)} (c : Count) (hc : 0 ≤ c.bits ∧ c.bits ≤ 63) (ah : Option Addr) (ch : Nat) (h : List Int) (hh6 : h.length ≤ 6) (hh : ∀ z ∈ h, 0 ≤ z ∧ z ≤ 12) (hsl : Sl w0 F ah 1 (h.map fun x => [Value.int .i64 x])) (hs : St w0 w F) :
  Con Try.prog 93 [.agg c.cells.toArray, .slice ah h.length ch] w fun v w' => v = .int .i64 (counted c.bits.toNat 0 h) ∧ St w0 w' F := by
  refine con_of_wc (n := 24) Try.func93 rfl rfl (Nat.le_of_ble_eq_true rfl) ?_
  refine w_seq (fun K2 hK1 => ?_)
  refine w_region ?_
  refine w_box (v := .agg #[.int _ _, .int _ _]) (cs := [_, _]) want_none rfl rfl rfl hs (fun b3 w4 hs5 => ?_)
  refine w_pure want_none (y_assign (v := _) rfl rfl) rfl ?_
  refine w_nil ?_
  refine q_then (hK1 _ _ ?_)
  refine w_seq (fun K7 hK6 => ?_)
  refine w_region ?_
  refine w_pure want_none (y_assign (v := _) rfl rfl) rfl ?_
  refine w_nil ?_
  refine q_then (hK6 _ _ ?_)
  refine w_seq (fun K9 hK8 => ?_)
  refine w_seq (fun K11 hK10 => ?_)
  refine w_region ?_
  refine w_pure want_none (y_assign (v := _) rfl rfl) rfl ?_
  refine w_nil ?_
  refine q_then (hK10 _ _ ?_)
  refine w_block ?_
  refine w_loop [5, 6, 7, 8, 9, 10, 11, 12, 13, 14, 15, 16, 17, 18, 19, 20, 21, 22] [5, 6] (fun k vs w => ∃ i : Nat, vs = [.int .i64 (counted c.bits.toNat 0 (h.take i)), .int .i64 i] ∧ i ≤ h.length ∧ k = h.length - i ∧ St w0 w ((b3, blk 51 c.cells) :: F)) (h.length) ?_ ?_
  ·
   exact ⟨0, rfl, by omega, by omega, hs5⟩
  ·
   intro k vs μ w14 hI K13 hN12
   obtain ⟨i, rfl, hia, rfl, hs⟩ := hI
   have hcb := counted_bound (bits := c.bits.toNat) hh i hh6
   refine w_seq (fun K16 hK15 => ?_)
   refine w_seq (fun K18 hK17 => ?_)
   refine w_region ?_
   refine w_pure want_none (y_move (v := .int _ _) rfl rfl) rfl ?_
   refine w_pure want_none (y_move (v := .slice _ _ _) rfl rfl) rfl ?_
   refine w_pure want_none (y_lenS Try.underlying37 rfl rfl) rfl ?_
   refine w_pure want_none (y_lss rfl rfl rfl rfl) rfl ?_
   refine w_nil ?_
   refine q_then (hK17 _ _ ?_)
   refine w_cond rfl rfl (fun h19 => ?_) (fun h19 => ?_)
   ·
    try simp only [Bool.not_eq_true', Bool.not_eq_false', decide_eq_true_eq, decide_eq_false_iff_not, Int.not_lt, Int.not_le] at h19
    refine w_skip ?_
    refine q_then (hK15 _ _ ?_)
    refine w_seq (fun K21 hK20 => ?_)
    refine w_block ?_
    refine w_seq (fun K23 hK22 => ?_)
    have hi2 : i < h.length := by omega
    obtain ⟨bx, ox, hbx, hx⟩ := sl_ints hsl hi2
    subst hbx
    have hg := hh _ (List.getElem_mem hi2)
    refine w_region ?_
    refine w_pure want_none (y_fieldAddr (o := 0) (i := 0) Try.underlying51 rfl Try.sizeOf3 rfl rfl rfl) rfl ?_
    refine w_pure want_none (y_load1 Try.isAgg3 hs rfl rfl (ats_own (i := 0) (vs := [_]) rfl rfl)) rfl ?_
    refine w_pure want_none (y_move (v := .int _ _) rfl rfl) rfl ?_
    refine w_call want_none Try.call47 rfl rfl rfl rfl (bit_con c.bits i (by omega) (by omega) (by omega) hs) ?_
    rintro _ w25 ⟨rfl, hs26⟩
    refine w_nil ?_
    refine q_then (hK22 _ _ ?_)
    refine w_cond rfl rfl (fun h27 => ?_) (fun h27 => ?_)
    ·
     try simp only [Bool.not_eq_true', Bool.not_eq_false', decide_eq_true_eq, decide_eq_false_iff_not, Int.not_lt, Int.not_le] at h27
     refine w_region ?_
     refine w_pure want_none (y_move (v := .int _ _) rfl rfl) rfl ?_
     refine w_pure want_none (y_move (v := .slice _ _ _) rfl rfl) rfl ?_
     refine w_pure want_none (y_move (v := .int _ _) rfl rfl) rfl ?_
     refine w_pure want_none (y_indexS Try.underlying37 Try.sizeOf3 rfl rfl rfl rfl (i := _) rfl (by omega)) rfl ?_
     refine w_pure want_none (y_load1 Try.isAgg3 hs26.tail rfl rfl hx) rfl ?_
     refine w_pure want_none (y_add rfl rfl rfl rfl (by omega) (by omega)) rfl ?_
     refine w_pure want_none (y_assign (v := .int _ _) rfl rfl) rfl ?_
     refine w_nil ?_
     refine q_blk_normal ?_
     refine q_then (hK20 _ _ ?_)
     refine w_region ?_
     refine w_pure want_none (y_move (v := .int _ _) rfl rfl) rfl ?_
     refine w_pure want_none (y_add rfl rfl rfl rfl (by omega) (by omega)) rfl ?_
     refine w_pure want_none (y_assign (v := .int _ _) rfl rfl) rfl ?_
     refine w_nil ?_
     refine q_then (hN12 _ _ (Nx.intro (h.length - (i + 1)) (by omega) (by repeat (first | exact agree_mix | refine agree_upd rfl ?_ | refine agree_updL rfl ?_ _ | refine agree_mixin rfl ?_)) ?_))
     first
       | exact ⟨i + 1, iv2 (counted_yes hi2 (by assumption)).symm rfl, by omega, rfl, hs26⟩
       | exact ⟨i + 1, iv2 (counted_no hi2 (by assumption)).symm rfl, by omega, rfl, hs26⟩
    ·
     try simp only [Bool.not_eq_true', Bool.not_eq_false', decide_eq_true_eq, decide_eq_false_iff_not, Int.not_lt, Int.not_le] at h27
     refine w_skip ?_
     refine q_blk_normal ?_
     refine q_then (hK20 _ _ ?_)
     refine w_region ?_
     refine w_pure want_none (y_move (v := .int _ _) rfl rfl) rfl ?_
     refine w_pure want_none (y_add rfl rfl rfl rfl (by omega) (by omega)) rfl ?_
     refine w_pure want_none (y_assign (v := .int _ _) rfl rfl) rfl ?_
     refine w_nil ?_
     refine q_then (hN12 _ _ (Nx.intro (h.length - (i + 1)) (by omega) (by repeat (first | exact agree_mix | refine agree_upd rfl ?_ | refine agree_updL rfl ?_ _ | refine agree_mixin rfl ?_)) ?_))
     first
       | exact ⟨i + 1, iv2 (counted_yes hi2 (by assumption)).symm rfl, by omega, rfl, hs26⟩
       | exact ⟨i + 1, iv2 (counted_no hi2 (by assumption)).symm rfl, by omega, rfl, hs26⟩
   ·
    try simp only [Bool.not_eq_true', Bool.not_eq_false', decide_eq_true_eq, decide_eq_false_iff_not, Int.not_lt, Int.not_le] at h19
    refine w_exit ?_
    refine q_then_exit ?_
    refine q_then_exit ?_
    refine q_blk_this ?_
    refine q_then (hK8 _ _ ?_)
    refine w_seq (fun K29 hK28 => ?_)
    refine w_region ?_
    refine w_pure want_none (y_move (v := .int _ _) rfl rfl) rfl ?_
    refine w_pure want_none (y_assign (v := .int _ _) rfl rfl) rfl ?_
    refine w_nil ?_
    refine q_then (hK28 _ _ ?_)
    refine w_ret ?_
    refine q_ret (l := [.tmp 4]) (vs := [_]) rfl ⟨⟨rfl, show _ = (.int _ _ : Value) from rfl⟩, trivial⟩ ?_
    have hil : i = h.length := by omega
    subst hil
    exact ⟨congrArg (Value.int .i64) (by rw [List.take_length]), hs.tail⟩

theorem c41 {w0 w : World} {F : List (Nat × Obj)} (l : Lot) (p : At3) (hm : LIn w0 F l p) (h s : Int) (hs : St w0 w F) :
  Con Try.prog 41 [.agg (l.cells p).toArray, .int .i64 h, .int .i64 s] w fun v w' => v = .int .i64 (ofG l.grades 0 h s) ∧ St w0 w' F := by
  refine con_of_wc (n := 34) Try.func41 rfl rfl (Nat.le_of_ble_eq_true rfl) ?_
  obtain ⟨ag, cg, ab, cb, ac, cc⟩ := p
  have hlg := hm.lg
  refine w_seq (fun K2 hK1 => ?_)
  refine w_region ?_
  refine w_box (v := .agg #[.slice _ _ _, .slice _ _ _, .slice _ _ _]) (cs := [_, _, _]) want_none rfl rfl rfl hs (fun b3 w4 hs5 => ?_)
  refine w_pure want_none (y_assign (v := _) rfl rfl) rfl ?_
  refine w_nil ?_
  refine q_then (hK1 _ _ ?_)
  refine w_seq (fun K7 hK6 => ?_)
  refine w_seq (fun K9 hK8 => ?_)
  refine w_region ?_
  refine w_pure want_none (y_assign (v := _) rfl rfl) rfl ?_
  refine w_nil ?_
  refine q_then (hK8 _ _ ?_)
  refine w_block ?_
  refine w_loop [6, 7, 8, 9, 10, 11, 12, 13, 14, 15, 16, 17, 18, 19, 20, 21, 22, 23, 24, 25, 26, 27, 28, 29, 30, 31, 32, 33] [7] (fun k vs w => ∃ i : Nat, vs = [.int .i64 i] ∧ i ≤ l.grades.length ∧ k = l.grades.length - i ∧ ofG l.grades 0 h s = ofG (l.grades.drop i) i h s ∧ St w0 w ((b3, blk 26 (l.cells ⟨ag, cg, ab, cb, ac, cc⟩)) :: F)) (l.grades.length) ?_ ?_
  ·
   exact ⟨0, rfl, by omega, by omega, rfl, hs5⟩
  ·
   intro k vs μ w12 hI K11 hN10
   obtain ⟨i, rfl, hia, rfl, hinv, hs⟩ := hI
   refine w_seq (fun K14 hK13 => ?_)
   refine w_seq (fun K16 hK15 => ?_)
   refine w_region ?_
   refine w_pure want_none (y_move (v := .int _ _) rfl rfl) rfl ?_
   refine w_pure want_none (y_fieldAddr (o := 0) (i := 0) Try.underlying26 rfl Try.sizeOf22 rfl rfl rfl) rfl ?_
   refine w_pure want_none (y_load1 Try.isAgg22 hs rfl rfl (ats_own (i := 0) (vs := [_]) rfl rfl)) rfl ?_
   refine w_pure want_none (y_lenS Try.underlying22 rfl rfl) rfl ?_
   refine w_pure want_none (y_lss rfl rfl rfl rfl) rfl ?_
   refine w_nil ?_
   refine q_then (hK15 _ _ ?_)
   refine w_cond rfl rfl (fun h17 => ?_) (fun h17 => ?_)
   ·
    try simp only [Bool.not_eq_true', Bool.not_eq_false', decide_eq_true_eq, decide_eq_false_iff_not, Int.not_lt, Int.not_le] at h17
    refine w_skip ?_
    refine q_then (hK13 _ _ ?_)
    refine w_seq (fun K19 hK18 => ?_)
    refine w_block ?_
    refine w_seq (fun K21 hK20 => ?_)
    have hi2 : i < l.grades.length := by omega
    obtain ⟨bx, ox, hbx, hx⟩ := sl_grows hm.g hi2
    subst hbx
    refine w_region ?_
    refine w_pure want_none (y_move (v := .int _ _) rfl rfl) rfl ?_
    refine w_pure want_none (y_fieldAddr (o := 0) (i := 0) Try.underlying26 rfl Try.sizeOf22 rfl rfl rfl) rfl ?_
    refine w_pure want_none (y_load1 Try.isAgg22 hs rfl rfl (ats_own (i := 0) (vs := [_]) rfl rfl)) rfl ?_
    refine w_pure want_none (y_move (v := .int _ _) rfl rfl) rfl ?_
    refine w_pure want_none (y_indexS Try.underlying22 Try.sizeOf79 rfl rfl rfl rfl (i := _) rfl (by omega)) rfl ?_
    refine w_pure want_none (y_fieldAddr (o := 1) (i := 1) Try.underlying79 rfl Try.sizeOf3 rfl rfl rfl) rfl ?_
    refine w_pure want_none (y_load1 Try.isAgg3 hs.tail rfl rfl (show Ats _ _ _ _ [_] from Ats.part hx 1 1)) rfl ?_
    refine w_pure want_none (y_geq rfl rfl rfl rfl) rfl ?_
    refine w_pure want_none (y_move (v := .bool _) rfl rfl) rfl ?_
    refine w_split (fun h22 => ?_) (fun h22 => ?_)
    ·
     try simp only [Bool.not_eq_true', Bool.not_eq_false', decide_eq_true_eq, decide_eq_false_iff_not, Int.not_lt, Int.not_le] at h22
     refine w_pure (want_yes rfl rfl rfl) (y_move (v := .int _ _) rfl rfl) rfl ?_
     refine w_pure (want_yes rfl rfl rfl) (y_fieldAddr (o := 0) (i := 0) Try.underlying26 rfl Try.sizeOf22 rfl rfl rfl) rfl ?_
     refine w_pure (want_yes rfl rfl rfl) (y_load1 Try.isAgg22 hs rfl rfl (ats_own (i := 0) (vs := [_]) rfl rfl)) rfl ?_
     refine w_pure (want_yes rfl rfl rfl) (y_move (v := .int _ _) rfl rfl) rfl ?_
     refine w_pure (want_yes rfl rfl rfl) (y_indexS Try.underlying22 Try.sizeOf79 rfl rfl rfl rfl (i := _) rfl (by omega)) rfl ?_
     refine w_pure (want_yes rfl rfl rfl) (y_fieldAddr (o := 2) (i := 2) Try.underlying79 rfl Try.sizeOf3 rfl rfl rfl) rfl ?_
     refine w_pure (want_yes rfl rfl rfl) (y_load1 Try.isAgg3 hs.tail rfl rfl (show Ats _ _ _ _ [_] from Ats.part hx 2 1)) rfl ?_
     refine w_pure (want_yes rfl rfl rfl) (y_leq rfl rfl rfl rfl) rfl ?_
     refine w_pure want_none (y_pickT (v := .bool _) rfl rfl rfl rfl) rfl ?_
     refine w_nil ?_
     refine q_then (hK20 _ _ ?_)
     refine w_cond rfl rfl (fun h23 => ?_) (fun h23 => ?_)
     ·
      try simp only [Bool.not_eq_true', Bool.not_eq_false', decide_eq_true_eq, decide_eq_false_iff_not, Int.not_lt, Int.not_le] at h23
      refine w_seq (fun K25 hK24 => ?_)
      refine w_region ?_
      refine w_pure want_none (y_move (v := .int _ _) rfl rfl) rfl ?_
      refine w_pure want_none (y_assign (v := .int _ _) rfl rfl) rfl ?_
      refine w_nil ?_
      refine q_then (hK24 _ _ ?_)
      refine w_ret ?_
      refine q_blk_ret ?_
      refine q_then_ret ?_
      refine q_then_ret ?_
      refine q_blk_ret ?_
      refine q_then_ret ?_
      refine q_ret (l := [.tmp 6]) (vs := [_]) rfl ⟨⟨rfl, show _ = (.int _ _ : Value) from rfl⟩, trivial⟩ ?_
      first
        | exact ⟨congrArg (Value.int .i64) (hinv.trans (of_here hi2 (by omega))).symm, hs.tail⟩
        | exact ⟨congrArg (Value.int .i64) (hinv.trans (of_end (by omega))).symm, hs.tail⟩
     ·
      try simp only [Bool.not_eq_true', Bool.not_eq_false', decide_eq_true_eq, decide_eq_false_iff_not, Int.not_lt, Int.not_le] at h23
      refine w_skip ?_
      refine q_blk_normal ?_
      refine q_then (hK18 _ _ ?_)
      refine w_region ?_
      refine w_pure want_none (y_move (v := .int _ _) rfl rfl) rfl ?_
      refine w_pure want_none (y_add rfl rfl rfl rfl (by omega) (by omega)) rfl ?_
      refine w_pure want_none (y_assign (v := .int _ _) rfl rfl) rfl ?_
      refine w_nil ?_
      refine q_then (hN10 _ _ (Nx.intro (l.grades.length - (i + 1)) (by omega) (by repeat (first | exact agree_mix | refine agree_upd rfl ?_ | refine agree_updL rfl ?_ _ | refine agree_mixin rfl ?_)) ?_))
      exact ⟨i + 1, rfl, by omega, rfl, hinv.trans (of_step hi2 (by omega)), hs⟩
    ·
     try simp only [Bool.not_eq_true', Bool.not_eq_false', decide_eq_true_eq, decide_eq_false_iff_not, Int.not_lt, Int.not_le] at h22
     refine w_skipop rfl rfl rfl ?_
     refine w_skipop rfl rfl rfl ?_
     refine w_skipop rfl rfl rfl ?_
     refine w_skipop rfl rfl rfl ?_
     refine w_skipop rfl rfl rfl ?_
     refine w_skipop rfl rfl rfl ?_
     refine w_skipop rfl rfl rfl ?_
     refine w_skipop rfl rfl rfl ?_
     refine w_pure want_none (y_pickF (v := _) rfl rfl rfl rfl) rfl ?_
     refine w_nil ?_
     refine q_then (hK20 _ _ ?_)
     refine w_condF rfl rfl ?_
     refine w_skip ?_
     refine q_blk_normal ?_
     refine q_then (hK18 _ _ ?_)
     refine w_region ?_
     refine w_pure want_none (y_move (v := .int _ _) rfl rfl) rfl ?_
     refine w_pure want_none (y_add rfl rfl rfl rfl (by omega) (by omega)) rfl ?_
     refine w_pure want_none (y_assign (v := .int _ _) rfl rfl) rfl ?_
     refine w_nil ?_
     refine q_then (hN10 _ _ (Nx.intro (l.grades.length - (i + 1)) (by omega) (by repeat (first | exact agree_mix | refine agree_upd rfl ?_ | refine agree_updL rfl ?_ _ | refine agree_mixin rfl ?_)) ?_))
     exact ⟨i + 1, rfl, by omega, rfl, hinv.trans (of_step hi2 (by omega)), hs⟩
   ·
    try simp only [Bool.not_eq_true', Bool.not_eq_false', decide_eq_true_eq, decide_eq_false_iff_not, Int.not_lt, Int.not_le] at h17
    refine w_exit ?_
    refine q_then_exit ?_
    refine q_then_exit ?_
    refine q_blk_this ?_
    refine q_then (hK6 _ _ ?_)
    refine w_seq (fun K27 hK26 => ?_)
    refine w_region ?_
    refine w_pure want_none (y_assign (v := _) rfl rfl) rfl ?_
    refine w_nil ?_
    refine q_then (hK26 _ _ ?_)
    refine w_ret ?_
    refine q_ret (l := [.tmp 6]) (vs := [_]) rfl ⟨⟨rfl, show _ = (.int _ _ : Value) from rfl⟩, trivial⟩ ?_
    first
      | exact ⟨congrArg (Value.int .i64) (hinv.trans (of_here hi2 (by omega))).symm, hs.tail⟩
      | exact ⟨congrArg (Value.int .i64) (hinv.trans (of_end (by omega))).symm, hs.tail⟩

theorem iv_v {v : Value} {a b : Int} (h : a = b) : [v, Value.int .i64 a] = [v, Value.int .i64 b] := by rw [h]
theorem c80 {w0 w : World} {F : List (Nat × Obj)} (l : Lot) (p : At3) (hm : LIn w0 F l p) (hok : l.Ok) (b : Nat) (hb2 : b < l.bunches.length) (h : Int) (hs : St w0 w F) :
  Con Try.prog 80 [.agg (l.cells p).toArray, .int .i64 (b : Int), .int .i64 h] w fun v w' => ∃ B, Rt.Own v 3 1 (gradesL l.grades h (scarsOf l b)).length (iv (gradesL l.grades h (scarsOf l b))) B ∧ St w0 w' (B ++ F) := by
  refine con_of_wc (n := 38) Try.func80 rfl rfl (Nat.le_of_ble_eq_true rfl) ?_
  obtain ⟨ag, cg, ab, cb, ac, cc⟩ := p
  have hlg := hok.lg
  obtain ⟨bx, ox, hbx, hx⟩ := sl_brows hm.b hb2
  subst hbx
  have hbu := hok.bunch _ (List.getElem_mem hb2)
  refine w_seq (fun K2 hK1 => ?_)
  refine w_region ?_
  refine w_box (v := .agg #[.slice _ _ _, .slice _ _ _, .slice _ _ _]) (cs := [_, _, _]) want_none rfl rfl rfl hs (fun b3 w4 hs5 => ?_)
  refine w_pure want_none (y_assign (v := _) rfl rfl) rfl ?_
  refine w_nil ?_
  refine q_then (hK1 _ _ ?_)
  refine w_seq (fun K7 hK6 => ?_)
  refine w_region ?_
  refine w_pure want_none (y_assign (v := _) rfl rfl) rfl ?_
  refine w_nil ?_
  refine q_then (hK6 _ _ ?_)
  refine w_seq (fun K9 hK8 => ?_)
  refine w_region ?_
  refine w_pure want_none (y_fieldAddr (o := 1) (i := 1) Try.underlying26 rfl Try.sizeOf23 rfl rfl rfl) rfl ?_
  refine w_pure want_none (y_load1 Try.isAgg23 hs5 rfl rfl (ats_own (i := 0) (vs := [_]) rfl rfl)) rfl ?_
  refine w_pure want_none (y_move (v := .int _ _) rfl rfl) rfl ?_
  refine w_pure want_none (y_indexS Try.underlying23 Try.sizeOf81 rfl rfl rfl rfl (i := b) rfl (by omega)) rfl ?_
  refine w_pure want_none (y_fieldAddr (o := 2) (i := 1) Try.underlying81 rfl Try.sizeOf34 rfl rfl rfl) rfl ?_
  refine w_pure want_none (y_loadN (vs := [_, _]) Try.isAgg34 Try.sizeOf34 hs5.tail rfl rfl (show Ats _ _ _ _ [_, _] from Ats.part hx 2 2)) rfl ?_
  refine w_alloc (cs := [_, _]) want_none Try.zeroValue34 rfl hs5 (fun b10 w11 hs12 => ?_)
  refine w_store (i := 0) (v := .agg #[.int _ _, .int _ _]) (vs := [_, _]) want_none Try.sizeOf34 rfl rfl rfl rfl rfl (by simp [Value.oneCell']) hs12 rfl (Nat.le_of_ble_eq_true rfl) (fun w13 hs14 => ?_)
  refine w_nil ?_
  refine q_then (hK8 _ _ ?_)
  refine w_seq (fun K16 hK15 => ?_)
  refine w_seq (fun K18 hK17 => ?_)
  refine w_region ?_
  refine w_pure want_none (y_fieldAddr (o := 0) (i := 0) Try.underlying34 rfl Try.sizeOf3 rfl rfl rfl) rfl ?_
  refine w_pure want_none (y_load1 Try.isAgg3 hs14 rfl rfl (ats_own (i := 0) (vs := [_]) rfl rfl)) rfl ?_
  refine w_pure want_none (y_assign (v := .int _ _) rfl rfl) rfl ?_
  refine w_nil ?_
  refine q_then (hK17 _ _ ?_)
  refine w_block ?_
  refine w_loop [7, 9, 10, 19, 20, 21, 22, 23, 24, 25, 26, 27, 28, 29, 30, 31, 32, 33, 34, 35, 36] [7, 9] (fun k vs w => ∃ (q : Nat) (v : Value) (B : List (Nat × Obj)), vs = [v, .int .i64 ((l.bunches[b]'hb2).slo + q)] ∧ (q : Int) ≤ (l.bunches[b]'hb2).shi + 1 - (l.bunches[b]'hb2).slo ∧ k = ((l.bunches[b]'hb2).shi + 1 - (l.bunches[b]'hb2).slo).toNat - q ∧ Rt.Own v 3 1 (gradesL l.grades h (upto (l.bunches[b]'hb2).slo q)).length (iv (gradesL l.grades h (upto (l.bunches[b]'hb2).slo q))) B ∧ St w0 w ((b10, blk 34 [.int .i64 (l.bunches[b]'hb2).slo, .int .i64 (l.bunches[b]'hb2).shi]) :: (b3, blk 26 (l.cells ⟨ag, cg, some ⟨bx, ox, none⟩, cb, ac, cc⟩)) :: (B ++ F))) (((l.bunches[b]'hb2).shi + 1 - (l.bunches[b]'hb2).slo).toNat) ?_ ?_
  ·
   exact ⟨0, _, [], by rw [show (l.bunches[b]'hb2).slo + ((0 : Nat) : Int) = (l.bunches[b]'hb2).slo by omega]; rfl, by omega, by omega, own_nil 3 1, hs14⟩
  ·
   intro k vs μ w21 hI K20 hN19
   obtain ⟨q, v, B, rfl, hq, rfl, hown, hs⟩ := hI
   have hgl := gradesL_len l.grades h (l.bunches[b]'hb2).slo q
   obtain ⟨aG, cG, rfl, hslG, _, _⟩ := own_ints (w0 := w0) hown
   refine w_seq (fun K23 hK22 => ?_)
   refine w_seq (fun K25 hK24 => ?_)
   refine w_region ?_
   refine w_pure want_none (y_move (v := .int _ _) rfl rfl) rfl ?_
   refine w_pure want_none (y_fieldAddr (o := 1) (i := 1) Try.underlying34 rfl Try.sizeOf3 rfl rfl rfl) rfl ?_
   refine w_pure want_none (y_load1 Try.isAgg3 hs rfl rfl (ats_own (i := 0) (vs := [_]) rfl rfl)) rfl ?_
   refine w_pure want_none (y_leq rfl rfl rfl rfl) rfl ?_
   refine w_nil ?_
   refine q_then (hK24 _ _ ?_)
   refine w_cond rfl rfl (fun h26 => ?_) (fun h26 => ?_)
   ·
    try simp only [Bool.not_eq_true', Bool.not_eq_false', decide_eq_true_eq, decide_eq_false_iff_not, Int.not_lt, Int.not_le] at h26
    refine w_skip ?_
    refine q_then (hK22 _ _ ?_)
    refine w_seq (fun K28 hK27 => ?_)
    refine w_block ?_
    refine w_seq (fun K30 hK29 => ?_)
    refine w_region ?_
    refine w_pure want_none (y_loadN (vs := [_, _, _]) Try.isAgg26 Try.sizeOf26 hs rfl rfl (ats_own (i := 1) (vs := [_, _, _]) rfl rfl)) rfl ?_
    refine w_pure want_none (y_move (v := .int _ _) rfl rfl) rfl ?_
    refine w_pure want_none (y_move (v := .int _ _) rfl rfl) rfl ?_
    refine w_call want_none Try.call41 rfl rfl rfl rfl (c41 l ⟨_, _, _, _, _, _⟩ hm.app.cons.cons h ((l.bunches[b]'hb2).slo + q) hs) ?_
    rintro _ w32 ⟨rfl, hs33⟩
    refine w_pure want_none (y_assign (v := .int _ _) rfl rfl) rfl ?_
    refine w_nil ?_
    refine q_then (hK29 _ _ ?_)
    refine w_seq (fun K35 hK34 => ?_)
    refine w_region ?_
    refine w_pure want_none (y_move (v := .slice _ _ _) rfl rfl) rfl ?_
    refine w_pure want_none (y_move (v := .int _ _) rfl rfl) rfl ?_
    refine w_call want_none Try.call43 rfl rfl rfl rfl (c43 _ _ (gradesL l.grades h (upto (l.bunches[b]'hb2).slo q)) (by omega) hslG.top.cons.cons _ hs33) ?_
    rintro _ w37 ⟨rfl, hs38⟩
    refine w_pure want_none (y_not rfl rfl) rfl ?_
    refine w_nil ?_
    refine q_then (hK34 _ _ ?_)
    refine w_cond rfl rfl (fun h39 => ?_) (fun h39 => ?_)
    ·
     try simp only [Bool.not_eq_true', Bool.not_eq_false', decide_eq_true_eq, decide_eq_false_iff_not, Int.not_lt, Int.not_le] at h39
     refine w_region ?_
     refine w_pure want_none (y_move (v := .slice _ _ _) rfl rfl) rfl ?_
     refine w_pure want_none (y_move (v := .int _ _) rfl rfl) rfl ?_
     refine w_bslice (ps := [(0, _)]) (pv := [(0, .int _ _)]) (cs := [_]) want_none rfl rfl (fun w => Try_U_fb5 _ w) hs38 (fun b40 w41 hs42 => ?_)
     refine w_append (X := (_ :: _ :: _ :: [])) (B := B) (rows := [[_]]) (sz := 1) (bytes := 8) want_none Try.underlying37 Try_info3 rfl rfl rfl rfl rfl rfl rfl rfl rfl hs42 hown (sl_own (i := 0) rfl (by simp) rfl) rfl (by simp) (by simp [Value.oneCell']) (by simp only [maxLen]; omega) (by omega) (fun v43 w44 B45 ho46 hs47 => ?_)
     replace hs47 := (show St _ _ (_ :: _ :: _ :: B45 ++ (F)) from hs47)
     refine w_pure want_none (y_assign (v := v43) rfl rfl) rfl ?_
     refine w_nil ?_
     refine q_blk_normal ?_
     refine q_then (hK27 _ _ ?_)
     refine w_region ?_
     refine w_pure want_none (y_move (v := .int _ _) rfl rfl) rfl ?_
     refine w_pure want_none (y_add rfl rfl rfl rfl (by omega) (by omega)) rfl ?_
     refine w_pure want_none (y_assign (v := .int _ _) rfl rfl) rfl ?_
     refine w_nil ?_
     refine q_then (hN19 _ _ (Nx.intro (((l.bunches[b]'hb2).shi + 1 - (l.bunches[b]'hb2).slo).toNat - (q + 1)) (by omega) (by repeat (first | exact agree_mix | refine agree_upd rfl ?_ | refine agree_updL rfl ?_ _ | refine agree_mixin rfl ?_)) ?_))
     exact ⟨q + 1, _, _, iv_v (by omega), by omega, rfl, by rw [gradesL_no (by assumption)]; exact own_snoc ho46, hs47.tail⟩
    ·
     try simp only [Bool.not_eq_true', Bool.not_eq_false', decide_eq_true_eq, decide_eq_false_iff_not, Int.not_lt, Int.not_le] at h39
     refine w_skip ?_
     refine q_blk_normal ?_
     refine q_then (hK27 _ _ ?_)
     refine w_region ?_
     refine w_pure want_none (y_move (v := .int _ _) rfl rfl) rfl ?_
     refine w_pure want_none (y_add rfl rfl rfl rfl (by omega) (by omega)) rfl ?_
     refine w_pure want_none (y_assign (v := .int _ _) rfl rfl) rfl ?_
     refine w_nil ?_
     refine q_then (hN19 _ _ (Nx.intro (((l.bunches[b]'hb2).shi + 1 - (l.bunches[b]'hb2).slo).toNat - (q + 1)) (by omega) (by repeat (first | exact agree_mix | refine agree_upd rfl ?_ | refine agree_updL rfl ?_ _ | refine agree_mixin rfl ?_)) ?_))
     exact ⟨q + 1, _, B, iv_v (by omega), by omega, rfl, by rw [gradesL_yes (by assumption)]; exact hown, hs38⟩
   ·
    try simp only [Bool.not_eq_true', Bool.not_eq_false', decide_eq_true_eq, decide_eq_false_iff_not, Int.not_lt, Int.not_le] at h26
    refine w_exit ?_
    refine q_then_exit ?_
    refine q_then_exit ?_
    refine q_blk_this ?_
    refine q_then (hK15 _ _ ?_)
    refine w_seq (fun K49 hK48 => ?_)
    refine w_region ?_
    refine w_pure want_none (y_move (v := .slice _ _ _) rfl rfl) rfl ?_
    refine w_pure want_none (y_assign (v := .slice _ _ _) rfl rfl) rfl ?_
    refine w_nil ?_
    refine q_then (hK48 _ _ ?_)
    refine w_ret ?_
    refine q_ret (l := [.tmp 6]) (vs := [_]) rfl ⟨⟨rfl, show _ = (.slice _ _ _ : Value) from rfl⟩, trivial⟩ ?_
    have hqc : q = ((l.bunches[b]'hb2).shi + 1 - (l.bunches[b]'hb2).slo).toNat := by omega
    have hgs : gradesL l.grades h (scarsOf l b) = (gradesL l.grades h (upto (l.bunches[b]'hb2).slo q)) := by unfold scarsOf spanL; rw [bunch_at hb2, hqc]
    rw [hgs]
    exact ⟨B, hown, hs.tail.tail⟩

end Go.Proofs
/- Walks of this seat, printed by gen.py over the engine: what each function returns, in whatever world. No conditions but those of each contract. -/
set_option linter.unusedVariables false
set_option linter.unusedSimpArgs false
set_option maxRecDepth 20000
namespace Go.Proofs
open Go.Rt Go.Rt.Ha
attribute [local irreducible] WL WC Con Yd At Ats Sl Agree DW
theorem Try_V_fb5 (x0 : Option Addr) (l0 c0 : Nat) (w : World) : (Instr.buildSlice 64 1 [(0, .slice x0 l0 c0)].toArray).run Try.prog w = .ok (.slice (some ⟨w.heap.size, 0, none⟩) 1 1) (w.alloc (Go.Rt.blk 37 [.slice x0 l0 c0])) := by kernel_rfl
theorem Try_V_fb6  (w : World) : (Instr.buildSlice 37 0 [].toArray).run Try.prog w = .ok (.slice (some ⟨w.heap.size, 0, none⟩) 0 0) (w.alloc (Go.Rt.blk 3 [])) := by kernel_rfl
theorem Try_V_fb7 (x0 : Int) (w : World) : (Instr.buildSlice 37 1 [(0, .int .i64 x0)].toArray).run Try.prog w = .ok (.slice (some ⟨w.heap.size, 0, none⟩) 1 1) (w.alloc (Go.Rt.blk 3 [.int .i64 x0])) := by kernel_rfl
theorem Try_info37 : Try.prog.info? 37 = some Try.t37 := by kernel_rfl
theorem c92 {w0 w : World} {F : List (Nat × Obj)} (l : Lot) (p : At3) (hm : LIn w0 F l p) (hok : l.Ok) (hs : St w0 w F) :
  Con Try.prog 92 [.agg (l.cells p).toArray] w fun v w' => ∃ (B : List (Nat × Obj)) (vs : List Value) (a : Option Addr) (c : Nat), v = .slice a (felt l.bunches).length c ∧ Sl w0 B a 1 (vs.map fun v => [v]) ∧ EL w0 B vs (felt l.bunches) ∧ St w0 w' (B ++ F) := by
  refine con_of_wc (n := 54) Try.func92 rfl rfl (Nat.le_of_ble_eq_true rfl) ?_
  have hlb := hok.lb
  
  refine w_seq (fun K2 hK1 => ?_)
  refine w_region ?_
  refine w_box (v := .agg #[.slice _ _ _, .slice _ _ _, .slice _ _ _]) (cs := [_, _, _]) want_none rfl rfl rfl hs (fun b3 w4 hs5 => ?_)
  refine w_pure want_none (y_assign (v := _) rfl rfl) rfl ?_
  refine w_nil ?_
  refine q_then (hK1 _ _ ?_)
  refine w_seq (fun K7 hK6 => ?_)
  have hbx := ats_ofR (i := 0) (vs := l.cells p) hs5 rfl rfl
  refine w_region ?_
  refine w_bslice (ps := [(0, _)]) (pv := [(0, .slice _ _ _)]) (cs := [_]) want_none rfl rfl (fun w => Try_V_fb5 _ _ _ w) hs5 (fun b8 w9 hs10 => ?_)
  refine w_pure want_none (y_assign (v := .slice _ _ _) rfl rfl) rfl ?_
  refine w_nil ?_
  refine q_then (hK6 _ _ ?_)
  refine w_seq (fun K12 hK11 => ?_)
  refine w_seq (fun K14 hK13 => ?_)
  refine w_region ?_
  refine w_pure want_none (y_assign (v := _) rfl rfl) rfl ?_
  refine w_nil ?_
  refine q_then (hK13 _ _ ?_)
  refine w_block ?_
  refine w_loop [3, 4, 5, 6, 7, 9, 10, 11, 12, 13, 14, 15, 16, 17, 18, 19, 20, 21, 22, 23, 24, 25, 26, 27, 28, 29, 30, 31, 32, 33, 34, 35, 36, 37, 38, 39, 40, 41, 42, 43, 44, 45, 46, 47, 48, 49, 50, 51, 52] [3, 4] (fun kk vs0 w => ∃ (i : Nat) (vO : Value) (OB E : List (Nat × Obj)) (vs : List Value), vs0 = [vO, .int .i64 i] ∧ i ≤ l.bunches.length ∧ kk = l.bunches.length - i ∧ Rt.Own vO 37 1 (feltTo l i).length vs OB ∧ EL w0 E vs (feltTo l i) ∧ St w0 w (OB ++ (E ++ ((b3, blk 26 (l.cells p)) :: F)))) (l.bunches.length) ?_ ?_
  ·
   exact ⟨0, _, [_], [], [.slice none 0 0], rfl, by omega, by omega, own_lit rfl (by simp [maxLen]), ⟨rfl, fun k hk => ⟨none, 0, by simp [felt_zero] at hk; subst hk; rfl, by simp [felt_zero] at hk; subst hk; exact Sl.nil _ _, fun _ => rfl⟩⟩, hs10⟩
  ·
   intro k vs μ w17 hI K16 hN15
   obtain ⟨i, vO, OB, E, vs, rfl, hia, rfl, hown0, hel, hs⟩ := hI
   refine w_seq (fun K19 hK18 => ?_)
   refine w_seq (fun K21 hK20 => ?_)
   refine w_region ?_
   refine w_pure want_none (y_move (v := .int _ _) rfl rfl) rfl ?_
   refine w_pure want_none (y_fieldAddr (o := 1) (i := 1) Try.underlying26 rfl Try.sizeOf23 rfl rfl rfl) rfl ?_
   refine w_pure want_none (y_load1 Try.isAgg23 hs.drop.drop rfl rfl (show Ats _ _ _ _ [_] from Ats.part hbx 1 1)) rfl ?_
   refine w_pure want_none (y_lenS Try.underlying23 rfl rfl) rfl ?_
   refine w_pure want_none (y_lss rfl rfl rfl rfl) rfl ?_
   refine w_nil ?_
   refine q_then (hK20 _ _ ?_)
   refine w_cond rfl rfl (fun h22 => ?_) (fun h22 => ?_)
   ·
    try simp only [Bool.not_eq_true', Bool.not_eq_false', decide_eq_true_eq, decide_eq_false_iff_not, Int.not_lt, Int.not_le] at h22
    refine w_skip ?_
    refine q_then (hK18 _ _ ?_)
    refine w_seq (fun K24 hK23 => ?_)
    refine w_block ?_
    refine w_seq (fun K26 hK25 => ?_)
    have hi2 : i < l.bunches.length := by omega
    have hwl := feltTo_len hok (Nat.le_of_lt hi2)
    have hbb := hok.bunch _ (List.getElem_mem hi2)
    obtain ⟨aO, cO, rfl, hslO⟩ := own_sl_id (w0 := w0) hown0 hel.1 (E ++ ((b3, blk 26 (l.cells p)) :: F))
    obtain ⟨by_, oy, hby, hy⟩ := sl_brows hm.b hi2
    refine w_region ?_
    refine w_pure want_none (y_assign (v := _) rfl rfl) rfl ?_
    refine w_nil ?_
    refine q_then (hK25 _ _ ?_)
    refine w_seq (fun K28 hK27 => ?_)
    refine w_seq (fun K30 hK29 => ?_)
    refine w_region ?_
    refine w_pure want_none (y_assign (v := _) rfl rfl) rfl ?_
    refine w_nil ?_
    refine q_then (hK29 _ _ ?_)
    refine w_block ?_
    refine w_loop [5, 6, 7, 16, 17, 18, 19, 20, 21, 22, 23, 24, 25, 26, 27, 28, 29, 30, 31, 32, 33, 34, 35, 36, 37, 38, 39, 40, 41, 42, 43, 44, 45, 46, 47, 48, 49, 50, 51] [5, 6] (fun kk vs0 w => ∃ (k : Nat) (vN : Value) (NB E1 : List (Nat × Obj)) (ws : List Value), vs0 = [vN, .int .i64 k] ∧ k ≤ (feltTo l i).length ∧ kk = (feltTo l i).length - k ∧ Rt.Own vN 37 1 (fTo (l.bunches[i]'hi2) (feltTo l i) k).length ws NB ∧ EL w0 E1 ws (fTo (l.bunches[i]'hi2) (feltTo l i) k) ∧ St w0 w (NB ++ (E1 ++ (OB ++ (E ++ ((b3, blk 26 (l.cells p)) :: F)))))) ((feltTo l i).length) ?_ ?_
    ·
     exact ⟨0, _, [], [], [], rfl, by omega, by omega, own_nil 37 1, EL.nil _ _, hs⟩
    ·
     intro k vs μ w33 hI K32 hN31
     obtain ⟨k, vN, NB, E1, ws, rfl, hka, rfl, hown1, hel1, hs⟩ := hI
     refine w_seq (fun K35 hK34 => ?_)
     refine w_seq (fun K37 hK36 => ?_)
     refine w_region ?_
     refine w_pure want_none (y_move (v := .int _ _) rfl rfl) rfl ?_
     refine w_pure want_none (y_move (v := .slice _ _ _) rfl rfl) rfl ?_
     refine w_pure want_none (y_lenS Try.underlying64 rfl rfl) rfl ?_
     refine w_pure want_none (y_lss rfl rfl rfl rfl) rfl ?_
     refine w_nil ?_
     refine q_then (hK36 _ _ ?_)
     refine w_cond rfl rfl (fun h38 => ?_) (fun h38 => ?_)
     ·
      try simp only [Bool.not_eq_true', Bool.not_eq_false', decide_eq_true_eq, decide_eq_false_iff_not, Int.not_lt, Int.not_le] at h38
      refine w_skip ?_
      refine q_then (hK34 _ _ ?_)
      refine w_seq (fun K40 hK39 => ?_)
      refine w_block ?_
      refine w_seq (fun K42 hK41 => ?_)
      have hk2 : k < (feltTo l i).length := by omega
      obtain ⟨bx, ox, b2, c2, haO, hx, hsx0, hnx⟩ := el_at hslO (hel.mono fun _ h => h.drop.front) hk2
      subst haO
      have hxl := feltTo_in (Nat.le_of_lt hi2) (List.getElem_mem hk2)
      refine w_region ?_
      refine w_pure want_none (y_fieldAddr (o := 1) (i := 1) Try.underlying26 rfl Try.sizeOf23 rfl rfl rfl) rfl ?_
      refine w_pure want_none (yd_slice hby (y_load1 Try.isAgg23 hs.drop.drop.drop.drop rfl rfl (show Ats _ _ _ _ [_] from Ats.part hbx 1 1))) rfl ?_
      refine w_pure want_none (y_move (v := .int _ _) rfl rfl) rfl ?_
      refine w_pure want_none (y_indexS Try.underlying23 Try.sizeOf81 rfl rfl rfl rfl (i := _) rfl (by omega)) rfl ?_
      refine w_pure want_none (y_fieldAddr (o := 0) (i := 0) Try.underlying81 rfl Try.sizeOf34 rfl rfl rfl) rfl ?_
      refine w_pure want_none (y_fieldAddr (o := 0) (i := 0) Try.underlying34 rfl Try.sizeOf3 rfl rfl rfl) rfl ?_
      refine w_pure want_none (y_load1 Try.isAgg3 hs.drop.drop.drop.drop.tail rfl rfl (show Ats _ _ _ _ [_] from Ats.part hy 0 1)) rfl ?_
      refine w_pure want_none (y_assign (v := .int _ _) rfl rfl) rfl ?_
      refine w_nil ?_
      refine q_then (hK41 _ _ ?_)
      refine w_block ?_
      refine w_loop [5, 7, 29, 30, 31, 32, 33, 34, 35, 36, 37, 38, 39, 40, 41, 42, 43, 44, 45, 46, 47, 48, 49, 50, 51] [5, 7] (fun kk vs0 w => ∃ (q : Nat) (vN : Value) (NB E1 : List (Nat × Obj)) (ws : List Value), vs0 = [vN, .int .i64 ((l.bunches[i]'hi2).lo + q)] ∧ (q : Int) ≤ (l.bunches[i]'hi2).hi + 1 - (l.bunches[i]'hi2).lo ∧ kk = ((l.bunches[i]'hi2).hi + 1 - (l.bunches[i]'hi2).lo).toNat - q ∧ Rt.Own vN 37 1 (fTo (l.bunches[i]'hi2) (feltTo l i) k ++ fPart (l.bunches[i]'hi2) ((feltTo l i)[k]'hk2) q).length ws NB ∧ EL w0 E1 ws (fTo (l.bunches[i]'hi2) (feltTo l i) k ++ fPart (l.bunches[i]'hi2) ((feltTo l i)[k]'hk2) q) ∧ St w0 w (NB ++ (E1 ++ (OB ++ (E ++ ((b3, blk 26 (l.cells p)) :: F)))))) (((l.bunches[i]'hi2).hi + 1 - (l.bunches[i]'hi2).lo).toNat) ?_ ?_
      ·
       exact ⟨0, vN, NB, E1, ws, iv_v (by omega), by omega, by omega, by rw [show fPart _ _ 0 = [] from rfl, List.append_nil]; exact hown1, by rw [show fPart _ _ 0 = [] from rfl, List.append_nil]; exact hel1, hs⟩
      ·
       intro k vs μ w45 hI K44 hN43
       obtain ⟨q, vN, NB, E1, ws, rfl, hqa, rfl, hown2, hel2, hs⟩ := hI
       refine w_seq (fun K47 hK46 => ?_)
       refine w_seq (fun K49 hK48 => ?_)
       refine w_region ?_
       refine w_pure want_none (y_move (v := .int _ _) rfl rfl) rfl ?_
       refine w_pure want_none (y_fieldAddr (o := 1) (i := 1) Try.underlying26 rfl Try.sizeOf23 rfl rfl rfl) rfl ?_
       refine w_pure want_none (yd_slice hby (y_load1 Try.isAgg23 hs.drop.drop.drop.drop rfl rfl (show Ats _ _ _ _ [_] from Ats.part hbx 1 1))) rfl ?_
       refine w_pure want_none (y_move (v := .int _ _) rfl rfl) rfl ?_
       refine w_pure want_none (y_indexS Try.underlying23 Try.sizeOf81 rfl rfl rfl rfl (i := _) rfl (by omega)) rfl ?_
       refine w_pure want_none (y_fieldAddr (o := 0) (i := 0) Try.underlying81 rfl Try.sizeOf34 rfl rfl rfl) rfl ?_
       refine w_pure want_none (y_fieldAddr (o := 1) (i := 1) Try.underlying34 rfl Try.sizeOf3 rfl rfl rfl) rfl ?_
       refine w_pure want_none (y_load1 Try.isAgg3 hs.drop.drop.drop.drop.tail rfl rfl (show Ats _ _ _ _ [_] from Ats.part hy 1 1)) rfl ?_
       refine w_pure want_none (y_leq rfl rfl rfl rfl) rfl ?_
       refine w_nil ?_
       refine q_then (hK48 _ _ ?_)
       refine w_cond rfl rfl (fun h50 => ?_) (fun h50 => ?_)
       ·
        try simp only [Bool.not_eq_true', Bool.not_eq_false', decide_eq_true_eq, decide_eq_false_iff_not, Int.not_lt, Int.not_le] at h50
        refine w_skip ?_
        refine q_then (hK46 _ _ ?_)
        refine w_seq (fun K52 hK51 => ?_)
        refine w_block ?_
        have hgl := fTo_len (b := (l.bunches[i]'hi2)) (ws := (feltTo l i)) (by omega) k
        have hgq := fPart_len (l.bunches[i]'hi2) ((feltTo l i)[k]'hk2) q
        refine w_region ?_
        refine w_pure want_none (y_move (v := vN) rfl rfl) rfl ?_
        refine w_bslice (ps := []) (pv := []) (cs := []) want_none rfl rfl (fun w => Try_V_fb6  w) hs (fun b53 w54 hs55 => ?_)
        refine w_pure want_none (y_move (v := .slice _ _ _) rfl rfl) rfl ?_
        refine w_pure want_none (y_move (v := .int _ _) rfl rfl) rfl ?_
        refine w_pure want_none (y_indexS Try.underlying64 Try.sizeOf37 rfl rfl rfl rfl (i := _) rfl (by omega)) rfl ?_
        refine w_pure want_none (y_load1 Try.isAgg37 hs55.tail.drop.drop rfl rfl hx) rfl ?_
        refine w_append (X := ([])) (B := [_]) (rows := (((feltTo l i)[k]'hk2).map fun x => [Value.int .i64 x])) (sz := 1) (bytes := 8) want_none Try.underlying37 Try_info3 rfl rfl rfl rfl rfl rfl rfl rfl rfl hs55 own_made hsx0.app.app.cons (by simp) hnx (ints_one _) (by simp only [maxLen]; omega) (by omega) (fun v56 w57 B58 ho59 hs60 => ?_)
        replace hs60 := (show St _ _ (B58 ++ (NB ++ (E1 ++ (OB ++ (E ++ (_ :: F)))))) from hs60)
        refine w_pure want_none (y_move (v := .int _ _) rfl rfl) rfl ?_
        refine w_bslice (ps := [(0, _)]) (pv := [(0, .int _ _)]) (cs := [_]) want_none rfl rfl (fun w => Try_V_fb7 _ w) hs60 (fun b61 w62 hs63 => ?_)
        refine w_append (X := (_ :: [])) (B := B58) (rows := [[_]]) (sz := 1) (bytes := 8) want_none Try.underlying37 Try_info3 rfl rfl rfl rfl rfl rfl rfl rfl rfl hs63 ho59 (sl_own (i := 0) rfl (by simp) rfl) rfl (by simp) (by simp [Value.oneCell']) (by simp only [maxLen]; omega) (by omega) (fun v64 w65 B66 ho67 hs68 => ?_)
        replace hs68 := (show St _ _ (_ :: B66 ++ (NB ++ (E1 ++ (OB ++ (E ++ (_ :: F)))))) from hs68)
        obtain ⟨a3, c3, rfl, hsl3, hn3, _⟩ := own_ints (w0 := w0) (own_ints1 ho67)
        refine w_bslice (ps := [(0, _)]) (pv := [(0, .slice _ _ _)]) (cs := [_]) want_none rfl rfl (fun w => Try_V_fb5 _ _ _ w) hs68 (fun b69 w70 hs71 => ?_)
        refine w_append (X := (_ :: _ :: B66)) (B := NB) (rows := [[_]]) (sz := 1) (bytes := 24) want_none Try.underlying64 Try_info37 rfl rfl rfl rfl rfl rfl rfl rfl rfl hs71 hown2 (sl_own (i := 0) rfl (by simp) rfl) rfl (by simp) (by simp [Value.oneCell']) (by simp only [maxLen, List.length_append]; omega) (by simp only [List.length_append]; omega) (fun v72 w73 B74 ho75 hs76 => ?_)
        replace hs76 := (show St _ _ (_ :: _ :: B66 ++ (B74 ++ (E1 ++ (OB ++ (E ++ (_ :: F)))))) from hs76)
        refine w_pure want_none (y_assign (v := v72) rfl rfl) rfl ?_
        refine w_nil ?_
        refine q_blk_normal ?_
        refine q_then (hK51 _ _ ?_)
        refine w_region ?_
        refine w_pure want_none (y_move (v := .int _ _) rfl rfl) rfl ?_
        refine w_pure want_none (y_add rfl rfl rfl rfl (by omega) (by omega)) rfl ?_
        refine w_pure want_none (y_assign (v := .int _ _) rfl rfl) rfl ?_
        refine w_nil ?_
        refine q_then (hN43 _ _ (Nx.intro (((l.bunches[i]'hi2).hi + 1 - (l.bunches[i]'hi2).lo).toNat - (q + 1)) (by omega) (by repeat (first | exact agree_mix | refine agree_upd rfl ?_ | refine agree_updL rfl ?_ _ | refine agree_mixin rfl ?_)) ?_))
        exact ⟨q + 1, _, _, B66 ++ E1, _, iv_v (by omega), by omega, rfl, by rw [fPart_succ, ← List.append_assoc]; exact own_el ho75, by rw [fPart_succ, ← List.append_assoc]; exact el_more hel2 hsl3 hn3, el_perm hs76⟩
       ·
        try simp only [Bool.not_eq_true', Bool.not_eq_false', decide_eq_true_eq, decide_eq_false_iff_not, Int.not_lt, Int.not_le] at h50
        refine w_exit ?_
        refine q_then_exit ?_
        refine q_then_exit ?_
        refine q_blk_this ?_
        refine q_blk_normal ?_
        refine q_then (hK39 _ _ ?_)
        refine w_region ?_
        refine w_pure want_none (y_move (v := .int _ _) rfl rfl) rfl ?_
        refine w_pure want_none (y_add rfl rfl rfl rfl (by omega) (by omega)) rfl ?_
        refine w_pure want_none (y_assign (v := .int _ _) rfl rfl) rfl ?_
        refine w_nil ?_
        refine q_then (hN31 _ _ (Nx.intro ((feltTo l i).length - (k + 1)) (by omega) (by repeat (first | exact agree_mix | refine agree_upd rfl ?_ | refine agree_updL rfl ?_ _ | refine agree_mixin rfl ?_)) ?_))
        have hqb : q = ((l.bunches[i]'hi2).hi + 1 - (l.bunches[i]'hi2).lo).toNat := by omega
        rw [fPart_all hqb, ← fTo_succ hk2] at hown2 hel2
        exact ⟨k + 1, vN, NB, E1, ws, rfl, by omega, by omega, hown2, hel2, hs⟩
     ·
      try simp only [Bool.not_eq_true', Bool.not_eq_false', decide_eq_true_eq, decide_eq_false_iff_not, Int.not_lt, Int.not_le] at h38
      refine w_exit ?_
      refine q_then_exit ?_
      refine q_then_exit ?_
      refine q_blk_this ?_
      refine q_then (hK27 _ _ ?_)
      refine w_region ?_
      refine w_pure want_none (y_move (v := vN) rfl rfl) rfl ?_
      refine w_pure want_none (y_assign (v := vN) rfl rfl) rfl ?_
      refine w_nil ?_
      refine q_blk_normal ?_
      refine q_then (hK23 _ _ ?_)
      refine w_region ?_
      refine w_pure want_none (y_move (v := .int _ _) rfl rfl) rfl ?_
      refine w_pure want_none (y_add rfl rfl rfl rfl (by omega) (by omega)) rfl ?_
      refine w_pure want_none (y_assign (v := .int _ _) rfl rfl) rfl ?_
      refine w_nil ?_
      refine q_then (hN15 _ _ (Nx.intro (l.bunches.length - (i + 1)) (by omega) (by repeat (first | exact agree_mix | refine agree_upd rfl ?_ | refine agree_updL rfl ?_ _ | refine agree_mixin rfl ?_)) ?_))
      have hkn : k = (feltTo l i).length := by omega
      rw [hkn, felt_step hi2] at hown1 hel1
      exact ⟨i + 1, vN, NB, E1, ws, rfl, by omega, rfl, hown1, hel1, (hs.perm (el_drop2 NB E1 OB E _)).drop⟩
   ·
    try simp only [Bool.not_eq_true', Bool.not_eq_false', decide_eq_true_eq, decide_eq_false_iff_not, Int.not_lt, Int.not_le] at h22
    refine w_exit ?_
    refine q_then_exit ?_
    refine q_then_exit ?_
    refine q_blk_this ?_
    refine q_then (hK11 _ _ ?_)
    refine w_seq (fun K78 hK77 => ?_)
    refine w_region ?_
    refine w_pure want_none (y_move (v := vO) rfl rfl) rfl ?_
    refine w_pure want_none (y_assign (v := vO) rfl rfl) rfl ?_
    refine w_nil ?_
    refine q_then (hK77 _ _ ?_)
    refine w_ret ?_
    refine q_ret (l := [.tmp 2]) (vs := [_]) rfl ⟨⟨rfl, show _ = (vO : Value) from rfl⟩, trivial⟩ ?_
    have hin : i = l.bunches.length := by omega
    subst hin
    rw [feltTo_all] at hown0 hel
    obtain ⟨aO, cO, rfl, hslO⟩ := own_sl_id (w0 := w0) hown0 hel.1 E
    exact ⟨OB ++ E, vs, aO, cO, rfl, hslO, hel.app, kq_own (by rw [List.append_assoc]; exact hs)⟩

end Go.Proofs
/- Walks of this seat, printed by gen.py over the engine: what each function returns, in whatever world. No conditions but those of each contract. -/
set_option linter.unusedVariables false
set_option linter.unusedSimpArgs false
set_option maxRecDepth 20000
namespace Go.Proofs
open Go.Rt Go.Rt.Ha
attribute [local irreducible] WL WC Con Yd At Ats Sl Agree DW
theorem Try_Wa_fb6 (x0 : Option Addr) (l0 c0 : Nat) (w : World) : (Instr.buildSlice 64 1 [(0, .slice x0 l0 c0)].toArray).run Try.prog w = .ok (.slice (some ⟨w.heap.size, 0, none⟩) 1 1) (w.alloc (Go.Rt.blk 37 [.slice x0 l0 c0])) := by kernel_rfl
theorem felt_all {l : Lot} (hok : l.Ok) : (felt l.bunches).length ≤ 4096 := by
  have h := feltTo_len hok (Nat.le_refl l.bunches.length); rw [feltTo_all] at h; exact h
theorem so_and {a b : Bool} {c d : Int} {x y : Bool} (h : (x && y) = a) (k : c = d) : [Value.bool (x && y), Value.int .i64 c] = [Value.bool a, Value.int .i64 d] := by rw [h, k]
theorem c45 {w0 w : World} {F : List (Nat × Obj)} (l : Lot) (p : At3) (hm : LIn w0 F l p) (hok : l.Ok) (abt : Option Addr) (cbt : Nat) (bt : List Int) (hbl : bt.length ≤ 9223372036854775807) (hbs : Sl w0 F abt 1 (bt.map fun x => [Value.int .i64 x])) (hs : St w0 w F) :
  Con Try.prog 45 [.agg (l.cells p).toArray, .slice abt bt.length cbt] w fun v w' => ∃ (B : List (Nat × Obj)) (vs : List Value) (a : Option Addr) (c : Nat), v = .slice a (waysR l bt).length c ∧ Sl w0 B a 1 (vs.map fun v => [v]) ∧ EL w0 B vs (waysR l bt) ∧ St w0 w' (B ++ F) := by
  refine con_of_wc (n := 59) Try.func45 rfl rfl (Nat.le_of_ble_eq_true rfl) ?_
  have hlc := hok.lc
  have hlb := hok.lb
  refine w_seq (fun K2 hK1 => ?_)
  refine w_region ?_
  refine w_box (v := .agg #[.slice _ _ _, .slice _ _ _, .slice _ _ _]) (cs := [_, _, _]) want_none rfl rfl rfl hs (fun b3 w4 hs5 => ?_)
  refine w_pure want_none (y_assign (v := _) rfl rfl) rfl ?_
  refine w_nil ?_
  refine q_then (hK1 _ _ ?_)
  refine w_seq (fun K7 hK6 => ?_)
  have hbx := ats_ofR (i := 0) (vs := l.cells p) hs5 rfl rfl
  refine w_region ?_
  refine w_pure want_none (y_loadN (vs := [_, _, _]) Try.isAgg26 Try.sizeOf26 hs5 rfl rfl hbx) rfl ?_
  refine w_call want_none Try.call92 rfl rfl rfl rfl (c92 l p hm.cons hok hs5) ?_
  rintro _ w9 ⟨FB, fv, aF, cF, rfl, hslF, helF, hs10⟩
  replace hs10 := (show St _ _ (FB ++ (_ :: F)) from hs10)
  have hfl := felt_all hok
  refine w_pure want_none (y_assign (v := .slice _ _ _) rfl rfl) rfl ?_
  refine w_nil ?_
  refine q_then (hK6 _ _ ?_)
  refine w_seq (fun K12 hK11 => ?_)
  refine w_region ?_
  refine w_pure want_none (y_assign (v := _) rfl rfl) rfl ?_
  refine w_nil ?_
  refine q_then (hK11 _ _ ?_)
  refine w_seq (fun K14 hK13 => ?_)
  refine w_seq (fun K16 hK15 => ?_)
  refine w_region ?_
  refine w_pure want_none (y_assign (v := _) rfl rfl) rfl ?_
  refine w_nil ?_
  refine q_then (hK15 _ _ ?_)
  refine w_block ?_
  refine w_loop [6, 7, 8, 9, 12, 13, 14, 15, 16, 17, 18, 19, 20, 21, 22, 23, 24, 25, 26, 27, 28, 29, 30, 31, 32, 33, 34, 35, 36, 37, 38, 39, 40, 41, 42, 43, 44, 45, 46, 47, 48, 49, 50, 51, 52, 53, 54, 55, 56, 57] [6, 7] (fun kk vs0 w => ∃ (i : Nat) (v : Value) (OB : List (Nat × Obj)) (ws : List Value), vs0 = [v, .int .i64 i] ∧ i ≤ (felt l.bunches).length ∧ kk = (felt l.bunches).length - i ∧ Rt.Own v 37 1 (((felt l.bunches).take i).filter (fun h => soR bt h 0 l.counts)).length ws OB ∧ EL w0 FB ws (((felt l.bunches).take i).filter (fun h => soR bt h 0 l.counts)) ∧ St w0 w (OB ++ (FB ++ ((b3, blk 26 (l.cells p)) :: F)))) ((felt l.bunches).length) ?_ ?_
  ·
   exact ⟨0, _, [], [], rfl, by omega, by omega, own_nil 37 1, EL.nil _ _, hs10⟩
  ·
   intro k vs μ w19 hI K18 hN17
   obtain ⟨i, v, OB, ws, rfl, hia, rfl, hown, hel, hs⟩ := hI
   refine w_seq (fun K21 hK20 => ?_)
   refine w_seq (fun K23 hK22 => ?_)
   refine w_region ?_
   refine w_pure want_none (y_move (v := .int _ _) rfl rfl) rfl ?_
   refine w_pure want_none (y_move (v := .slice _ _ _) rfl rfl) rfl ?_
   refine w_pure want_none (y_lenS Try.underlying64 rfl rfl) rfl ?_
   refine w_pure want_none (y_lss rfl rfl rfl rfl) rfl ?_
   refine w_nil ?_
   refine q_then (hK22 _ _ ?_)
   refine w_cond rfl rfl (fun h24 => ?_) (fun h24 => ?_)
   ·
    try simp only [Bool.not_eq_true', Bool.not_eq_false', decide_eq_true_eq, decide_eq_false_iff_not, Int.not_lt, Int.not_le] at h24
    refine w_skip ?_
    refine q_then (hK20 _ _ ?_)
    refine w_seq (fun K26 hK25 => ?_)
    refine w_block ?_
    refine w_seq (fun K28 hK27 => ?_)
    have hi2 : i < (felt l.bunches).length := by omega
    obtain ⟨bx, ox, bq3, c3, haF, hx0, hsx0, hnx⟩ := el_at hslF helF hi2
    subst haF
    have hx := hx0.top (F := (b3, blk 26 (l.cells p)) :: F)
    have hin := felt_num hok (List.getElem_mem hi2)
    have hwl : (((felt l.bunches).take i).filter (fun h => soR bt h 0 l.counts)).length ≤ i := by have := List.length_filter_le (fun h => soR bt h 0 l.counts) ((felt l.bunches).take i); rw [List.length_take] at this; omega
    refine w_region ?_
    refine w_pure want_none (y_assign (v := _) rfl rfl) rfl ?_
    refine w_nil ?_
    refine q_then (hK27 _ _ ?_)
    refine w_seq (fun K30 hK29 => ?_)
    refine w_seq (fun K32 hK31 => ?_)
    refine w_region ?_
    refine w_pure want_none (y_assign (v := _) rfl rfl) rfl ?_
    refine w_nil ?_
    refine q_then (hK31 _ _ ?_)
    refine w_block ?_
    refine w_loop [8, 9, 18, 19, 20, 21, 22, 23, 24, 25, 26, 27, 28, 29, 30, 31, 32, 33, 34, 35, 36, 37, 38, 39, 40, 41, 42, 43, 44, 45, 46, 47, 48, 49] [8, 9] (fun kk vs0 w => ∃ (k : Nat), vs0 = [.bool (soR bt ((felt l.bunches)[i]'hi2) 0 (l.counts.take k)), .int .i64 k] ∧ k ≤ l.counts.length ∧ kk = l.counts.length - k ∧ St w0 w (OB ++ (FB ++ ((b3, blk 26 (l.cells p)) :: F)))) (l.counts.length) ?_ ?_
    ·
     exact ⟨0, rfl, by omega, by omega, hs⟩
    ·
     intro k vs μ w35 hI K34 hN33
     obtain ⟨k, rfl, hka, rfl, hs⟩ := hI
     generalize hsk : soR bt ((felt l.bunches)[i]'hi2) 0 (l.counts.take k) = sk
     refine w_seq (fun K37 hK36 => ?_)
     refine w_seq (fun K39 hK38 => ?_)
     refine w_region ?_
     refine w_pure want_none (y_move (v := .int _ _) rfl rfl) rfl ?_
     refine w_pure want_none (y_fieldAddr (o := 2) (i := 2) Try.underlying26 rfl Try.sizeOf24 rfl rfl rfl) rfl ?_
     refine w_pure want_none (y_load1 Try.isAgg24 hs.drop.drop rfl rfl (show Ats _ _ _ _ [_] from Ats.part hbx 2 1)) rfl ?_
     refine w_pure want_none (y_lenS Try.underlying24 rfl rfl) rfl ?_
     refine w_pure want_none (y_lss rfl rfl rfl rfl) rfl ?_
     refine w_nil ?_
     refine q_then (hK38 _ _ ?_)
     refine w_cond rfl rfl (fun h40 => ?_) (fun h40 => ?_)
     ·
      try simp only [Bool.not_eq_true', Bool.not_eq_false', decide_eq_true_eq, decide_eq_false_iff_not, Int.not_lt, Int.not_le] at h40
      refine w_skip ?_
      refine q_then (hK36 _ _ ?_)
      refine w_seq (fun K42 hK41 => ?_)
      refine w_block ?_
      have hk2 : k < l.counts.length := by omega
      obtain ⟨by_, oy, hby, hy⟩ := sl_crows hm.c hk2
      have hcc := hok.count _ (List.getElem_mem hk2)
      have hp64 := pow64 hlb
      refine w_draw [] [(0, 0), (1, 0), (2, 0), (3, 0), (4, 2), (5, 0), (6, 0), (7, 1), (8, 0), (9, 0), (10, 1), (11, 0), (12, 0), (13, 0), (14, 1), (16, 0), (17, 1), (18, 0), (19, 0), (20, 0), (21, 1), (15, 2), (22, 0), (23, 0), (24, 0), (25, 0)] Try_mo (drawOK_of (by kernel_rfl)) hs (fun w43 hs44 => ?_)
      refine d_any rfl want_none rfl (fun _ => (y_move (v := .bool _) rfl rfl)) ?_
      refine d_any rfl want_none rfl (fun _ => (y_move (v := .bool _) rfl rfl)) ?_
      refine d_split (fun h45 => ?_) (fun h45 => ?_)
      ·
       subst h45
       refine d_any rfl (want_yes rfl rfl rfl) rfl (fun _ => (y_move (v := .slice _ _ _) rfl rfl)) ?_
       refine d_any rfl (want_yes rfl rfl rfl) rfl (fun _ => (y_move (v := .int _ _) rfl rfl)) ?_
       refine d_eff rfl ?_
       refine w_call (want_yes rfl rfl rfl) Try.call43 rfl rfl rfl rfl (c43 _ _ bt hbl hbs.cons.app.app _ hs44) ?_
       rintro _ w47 ⟨rfl, hs48⟩
       refine w_nil ?_
       refine qn ⟨hs48, ?_⟩
       refine d_any rfl (want_yes rfl rfl rfl) rfl (fun _ => (y_move (v := .bool _) rfl rfl)) ?_
       refine d_split (fun h49 => ?_) (fun h49 => ?_)
       ·
        try simp only [Bool.not_eq_true', Bool.not_eq_false', decide_eq_true_eq, decide_eq_false_iff_not, Int.not_lt, Int.not_le] at h49
        refine d_skip rfl rfl rfl rfl ?_
        refine d_skip1 rfl rfl rfl rfl hs48 ?_
        refine d_skip rfl rfl rfl rfl ?_
        refine d_skip rfl rfl rfl rfl ?_
        refine d_skip1 rfl rfl rfl rfl hs48 ?_
        refine d_skip rfl rfl rfl rfl ?_
        refine d_skip rfl rfl rfl rfl ?_
        refine d_skip rfl rfl rfl rfl ?_
        refine d_skip1 rfl rfl rfl rfl hs48 ?_
        refine d_skip rfl rfl rfl rfl ?_
        refine d_skip1 rfl rfl rfl rfl hs48 ?_
        refine d_skip rfl rfl rfl rfl ?_
        refine d_skip rfl rfl rfl rfl ?_
        refine d_skip rfl rfl rfl rfl ?_
        refine d_skip1 rfl rfl rfl rfl hs48 ?_
        refine d_eff rfl ?_
        refine w_skipop rfl rfl rfl ?_
        refine w_nil ?_
        refine qn ⟨hs48, ?_⟩
        refine d_skip rfl rfl rfl rfl ?_
        refine d_any rfl (want_yes rfl rfl rfl) rfl (fun _ => (y_pickT (v := _) rfl rfl rfl rfl)) ?_
        refine d_any rfl want_none rfl (fun _ => (y_pickT (v := .bool _) rfl rfl rfl rfl)) ?_
        refine d_any rfl want_none rfl (fun _ => (y_assign (v := .bool _) rfl rfl)) ?_
        refine d_nil ?_
        refine q_blk_normal ?_
        refine q_then (hK41 _ _ ?_)
        refine w_region ?_
        refine w_pure want_none (y_move (v := .int _ _) rfl rfl) rfl ?_
        refine w_pure want_none (y_add rfl rfl rfl rfl (by omega) (by omega)) rfl ?_
        refine w_pure want_none (y_assign (v := .int _ _) rfl rfl) rfl ?_
        refine w_nil ?_
        refine q_then (hN33 _ _ (Nx.intro (l.counts.length - (k + 1)) (by omega) (by repeat (first | exact agree_mix | refine agree_upd rfl ?_ | refine agree_updL rfl ?_ _ | refine agree_mixin rfl ?_)) ?_))
        first
          | exact ⟨k + 1, bi2 (by rw [soR_take hk2, hsk, (by assumption : hasI bt (k : Int) = true)]; rfl) rfl, by omega, rfl, hs48⟩
          | exact ⟨k + 1, bi2 (by rw [soR_take hk2, hsk, (by assumption : hasI bt (k : Int) = false)]; rfl) rfl, by omega, rfl, hs48⟩
          | exact ⟨k + 1, bi2 (by rw [soR_take hk2, hsk]; rfl) rfl, by omega, rfl, hs48⟩
       ·
        try simp only [Bool.not_eq_true', Bool.not_eq_false', decide_eq_true_eq, decide_eq_false_iff_not, Int.not_lt, Int.not_le] at h49
        refine d_any rfl (want_yes rfl rfl rfl) rfl (fun _ => (y_fieldAddr (o := 2) (i := 2) Try.underlying26 rfl Try.sizeOf24 rfl rfl rfl)) ?_
        refine d_take rfl (want_yes rfl rfl rfl) rfl hs48 (fun _ hq => (yd_slice hby (y_load1 Try.isAgg24 hq.drop.drop rfl rfl (show Ats _ _ _ _ [_] from Ats.part hbx 2 1)))) ?_
        refine d_any rfl (want_yes rfl rfl rfl) rfl (fun _ => (y_move (v := .int _ _) rfl rfl)) ?_
        refine d_any rfl (want_yes rfl rfl rfl) rfl (fun _ => (y_indexS Try.underlying24 Try.sizeOf51 rfl rfl rfl rfl (i := _) rfl (by omega))) ?_
        refine d_take rfl (want_yes rfl rfl rfl) rfl hs48 (fun _ hq => (y_loadN (vs := [_, _]) Try.isAgg51 Try.sizeOf51 hq.drop.drop.tail rfl rfl hy)) ?_
        refine d_any rfl (want_yes rfl rfl rfl) rfl (fun _ => (y_move (v := .slice _ _ _) rfl rfl)) ?_
        refine d_any rfl (want_yes rfl rfl rfl) rfl (fun _ => (y_move (v := .int _ _) rfl rfl)) ?_
        refine d_any rfl (want_yes rfl rfl rfl) rfl (fun _ => (y_indexS Try.underlying64 Try.sizeOf37 rfl rfl rfl rfl (i := _) rfl (by omega))) ?_
        refine d_take rfl (want_yes rfl rfl rfl) rfl hs48 (fun _ hq => (y_load1 Try.isAgg37 hq.drop rfl rfl hx)) ?_
        refine d_any rfl (want_yes rfl rfl rfl) rfl (fun _ => (y_fieldAddr (o := 2) (i := 2) Try.underlying26 rfl Try.sizeOf24 rfl rfl rfl)) ?_
        refine d_take rfl (want_yes rfl rfl rfl) rfl hs48 (fun _ hq => (yd_slice hby (y_load1 Try.isAgg24 hq.drop.drop rfl rfl (show Ats _ _ _ _ [_] from Ats.part hbx 2 1)))) ?_
        refine d_any rfl (want_yes rfl rfl rfl) rfl (fun _ => (y_move (v := .int _ _) rfl rfl)) ?_
        refine d_any rfl (want_yes rfl rfl rfl) rfl (fun _ => (y_indexS Try.underlying24 Try.sizeOf51 rfl rfl rfl rfl (i := _) rfl (by omega))) ?_
        refine d_any rfl (want_yes rfl rfl rfl) rfl (fun _ => (y_fieldAddr (o := 1) (i := 1) Try.underlying51 rfl Try.sizeOf3 rfl rfl rfl)) ?_
        refine d_take rfl (want_yes rfl rfl rfl) rfl hs48 (fun _ hq => (y_load1 Try.isAgg3 hq.drop.drop.tail rfl rfl (show Ats _ _ _ _ [_] from Ats.part hy 1 1))) ?_
        refine d_eff rfl ?_
        refine w_call (want_yes rfl rfl rfl) Try.call93 rfl rfl rfl rfl (c93 (l.counts[k]'hk2) (by omega) _ _ ((felt l.bunches)[i]'hi2) (by omega) (fun z hz => by have := hin.2 z hz; omega) hsx0.top.app hs48) ?_
        rintro _ w51 ⟨rfl, hs52⟩
        refine w_nil ?_
        refine qn ⟨hs52, ?_⟩
        refine d_any rfl (want_yes rfl rfl rfl) rfl (fun _ => (y_eql rfl rfl rfl rfl)) ?_
        refine d_any rfl (want_yes rfl rfl rfl) rfl (fun _ => (y_pickF (v := .bool _) rfl rfl rfl rfl)) ?_
        refine d_any rfl want_none rfl (fun _ => (y_pickT (v := .bool _) rfl rfl rfl rfl)) ?_
        refine d_any rfl want_none rfl (fun _ => (y_assign (v := .bool _) rfl rfl)) ?_
        refine d_nil ?_
        refine q_blk_normal ?_
        refine q_then (hK41 _ _ ?_)
        refine w_region ?_
        refine w_pure want_none (y_move (v := .int _ _) rfl rfl) rfl ?_
        refine w_pure want_none (y_add rfl rfl rfl rfl (by omega) (by omega)) rfl ?_
        refine w_pure want_none (y_assign (v := .int _ _) rfl rfl) rfl ?_
        refine w_nil ?_
        refine q_then (hN33 _ _ (Nx.intro (l.counts.length - (k + 1)) (by omega) (by repeat (first | exact agree_mix | refine agree_upd rfl ?_ | refine agree_updL rfl ?_ _ | refine agree_mixin rfl ?_)) ?_))
        first
          | exact ⟨k + 1, bi2 (by rw [soR_take hk2, hsk, (by assumption : hasI bt (k : Int) = true)]; rfl) rfl, by omega, rfl, hs52⟩
          | exact ⟨k + 1, bi2 (by rw [soR_take hk2, hsk, (by assumption : hasI bt (k : Int) = false)]; rfl) rfl, by omega, rfl, hs52⟩
          | exact ⟨k + 1, bi2 (by rw [soR_take hk2, hsk]; rfl) rfl, by omega, rfl, hs52⟩
      ·
       subst h45
       refine d_skip rfl rfl rfl rfl ?_
       refine d_skip rfl rfl rfl rfl ?_
       refine d_eff rfl ?_
       refine w_skipop rfl rfl rfl ?_
       refine w_nil ?_
       refine qn ⟨hs44, ?_⟩
       refine d_skip rfl rfl rfl rfl ?_
       refine d_skip' rfl rfl rfl rfl ?_
       refine d_skip1' rfl rfl rfl rfl hs44 ?_
       refine d_skip' rfl rfl rfl rfl ?_
       refine d_skip' rfl rfl rfl rfl ?_
       refine d_skip1' rfl rfl rfl rfl hs44 ?_
       refine d_skip' rfl rfl rfl rfl ?_
       refine d_skip' rfl rfl rfl rfl ?_
       refine d_skip' rfl rfl rfl rfl ?_
       refine d_skip1' rfl rfl rfl rfl hs44 ?_
       refine d_skip' rfl rfl rfl rfl ?_
       refine d_skip1' rfl rfl rfl rfl hs44 ?_
       refine d_skip' rfl rfl rfl rfl ?_
       refine d_skip' rfl rfl rfl rfl ?_
       refine d_skip' rfl rfl rfl rfl ?_
       refine d_skip1' rfl rfl rfl rfl hs44 ?_
       refine d_eff rfl ?_
       refine w_skipop' rfl rfl rfl ?_
       refine w_nil ?_
       refine qn ⟨hs44, ?_⟩
       refine d_skip' rfl rfl rfl rfl ?_
       refine d_skip rfl rfl rfl rfl ?_
       refine d_any rfl want_none rfl (fun _ => (y_pickF (v := _) rfl rfl rfl rfl)) ?_
       refine d_any rfl want_none rfl (fun _ => (y_assign (v := .bool _) rfl rfl)) ?_
       refine d_nil ?_
       refine q_blk_normal ?_
       refine q_then (hK41 _ _ ?_)
       refine w_region ?_
       refine w_pure want_none (y_move (v := .int _ _) rfl rfl) rfl ?_
       refine w_pure want_none (y_add rfl rfl rfl rfl (by omega) (by omega)) rfl ?_
       refine w_pure want_none (y_assign (v := .int _ _) rfl rfl) rfl ?_
       refine w_nil ?_
       refine q_then (hN33 _ _ (Nx.intro (l.counts.length - (k + 1)) (by omega) (by repeat (first | exact agree_mix | refine agree_upd rfl ?_ | refine agree_updL rfl ?_ _ | refine agree_mixin rfl ?_)) ?_))
       first
         | exact ⟨k + 1, bi2 (by rw [soR_take hk2, hsk, (by assumption : hasI bt (k : Int) = true)]; rfl) rfl, by omega, rfl, hs44⟩
         | exact ⟨k + 1, bi2 (by rw [soR_take hk2, hsk, (by assumption : hasI bt (k : Int) = false)]; rfl) rfl, by omega, rfl, hs44⟩
         | exact ⟨k + 1, bi2 (by rw [soR_take hk2, hsk]; rfl) rfl, by omega, rfl, hs44⟩
     ·
      try simp only [Bool.not_eq_true', Bool.not_eq_false', decide_eq_true_eq, decide_eq_false_iff_not, Int.not_lt, Int.not_le] at h40
      refine w_exit ?_
      refine q_then_exit ?_
      refine q_then_exit ?_
      refine q_blk_this ?_
      refine q_then (hK29 _ _ ?_)
      refine w_seq (fun K54 hK53 => ?_)
      have hkn : k = l.counts.length := by omega
      subst hkn
      rw [List.take_length] at hsk
      refine w_region ?_
      refine w_pure want_none (y_move (v := .bool _) rfl rfl) rfl ?_
      refine w_nil ?_
      refine q_then (hK53 _ _ ?_)
      refine w_cond rfl rfl (fun h55 => ?_) (fun h55 => ?_)
      ·
       subst h55
       refine w_region ?_
       refine w_pure want_none (y_move (v := v) rfl rfl) rfl ?_
       refine w_pure want_none (y_move (v := .slice _ _ _) rfl rfl) rfl ?_
       refine w_pure want_none (y_move (v := .int _ _) rfl rfl) rfl ?_
       refine w_pure want_none (y_indexS Try.underlying64 Try.sizeOf37 rfl rfl rfl rfl (i := _) rfl (by omega)) rfl ?_
       refine w_pure want_none (y_load1 Try.isAgg37 hs.drop rfl rfl hx) rfl ?_
       refine w_bslice (ps := [(0, _)]) (pv := [(0, .slice _ _ _)]) (cs := [_]) want_none rfl rfl (fun w => Try_Wa_fb6 _ _ _ w) hs (fun b56 w57 hs58 => ?_)
       refine w_append (X := (_ :: [])) (B := OB) (rows := [[_]]) (sz := 1) (bytes := 24) want_none Try.underlying64 Try_info37 rfl rfl rfl rfl rfl rfl rfl rfl rfl hs58 hown (sl_own (i := 0) rfl (by simp) rfl) rfl (by simp) (by simp [Value.oneCell']) (by simp only [maxLen]; omega) (by omega) (fun v59 w60 B61 ho62 hs63 => ?_)
       replace hs63 := (show St _ _ (_ :: B61 ++ (FB ++ (_ :: F))) from hs63)
       refine w_pure want_none (y_assign (v := v59) rfl rfl) rfl ?_
       refine w_nil ?_
       refine q_blk_normal ?_
       refine q_then (hK25 _ _ ?_)
       refine w_region ?_
       refine w_pure want_none (y_move (v := .int _ _) rfl rfl) rfl ?_
       refine w_pure want_none (y_add rfl rfl rfl rfl (by omega) (by omega)) rfl ?_
       refine w_pure want_none (y_assign (v := .int _ _) rfl rfl) rfl ?_
       refine w_nil ?_
       refine q_then (hN17 _ _ (Nx.intro ((felt l.bunches).length - (i + 1)) (by omega) (by repeat (first | exact agree_mix | refine agree_upd rfl ?_ | refine agree_updL rfl ?_ _ | refine agree_mixin rfl ?_)) ?_))
       exact ⟨i + 1, _, _, _, rfl, by omega, rfl, by rw [filt_yes hi2 hsk]; exact own_el ho62, by rw [filt_yes hi2 hsk]; exact hel.snoc hsx0 hnx, hs63.tail⟩
      ·
       subst h55
       refine w_skip ?_
       refine q_blk_normal ?_
       refine q_then (hK25 _ _ ?_)
       refine w_region ?_
       refine w_pure want_none (y_move (v := .int _ _) rfl rfl) rfl ?_
       refine w_pure want_none (y_add rfl rfl rfl rfl (by omega) (by omega)) rfl ?_
       refine w_pure want_none (y_assign (v := .int _ _) rfl rfl) rfl ?_
       refine w_nil ?_
       refine q_then (hN17 _ _ (Nx.intro ((felt l.bunches).length - (i + 1)) (by omega) (by repeat (first | exact agree_mix | refine agree_upd rfl ?_ | refine agree_updL rfl ?_ _ | refine agree_mixin rfl ?_)) ?_))
       exact ⟨i + 1, v, OB, ws, rfl, by omega, rfl, by rw [filt_no hi2 hsk]; exact hown, by rw [filt_no hi2 hsk]; exact hel, hs⟩
   ·
    try simp only [Bool.not_eq_true', Bool.not_eq_false', decide_eq_true_eq, decide_eq_false_iff_not, Int.not_lt, Int.not_le] at h24
    refine w_exit ?_
    refine q_then_exit ?_
    refine q_then_exit ?_
    refine q_blk_this ?_
    refine q_then (hK13 _ _ ?_)
    refine w_seq (fun K65 hK64 => ?_)
    refine w_region ?_
    refine w_pure want_none (y_move (v := v) rfl rfl) rfl ?_
    refine w_pure want_none (y_assign (v := v) rfl rfl) rfl ?_
    refine w_nil ?_
    refine q_then (hK64 _ _ ?_)
    refine w_ret ?_
    refine q_ret (l := [.tmp 4]) (vs := [_]) rfl ⟨⟨rfl, show _ = (v : Value) from rfl⟩, trivial⟩ ?_
    have hin : i = (felt l.bunches).length := by omega
    subst hin
    rw [List.take_length] at hown hel
    obtain ⟨aO, cO, rfl, hslO⟩ := own_sl_id (w0 := w0) hown hel.1 FB
    exact ⟨OB ++ FB, ws, aO, cO, rfl, hslO, hel.app, kq_own (by rw [List.append_assoc]; exact hs)⟩

end Go.Proofs
/- Plain words of the hand layer: spans, grades and others over the ways, step by step. No conditions. -/
set_option linter.unusedSimpArgs false
set_option linter.unusedVariables false
namespace Go.Rt.Ha
theorem at_get {h : List Int} {b : Nat} (hb : b < h.length) : at_ h b = h[b] := by simp [at_, List.getD, hb]
theorem spanR_one {b : Nat} {ws : List (List Int)} (h : 0 < ws.length) : spanR b (ws.take 1) = (at_ ws[0] b, at_ ws[0] b) := by
  match ws, h with
  | x :: r, _ => rfl
theorem spanR_step {b : Nat} {ws : List (List Int)} {i : Nat} (h1 : 1 ≤ i) (h : i < ws.length) : spanR b (ws.take (i + 1)) = (min (spanR b (ws.take i)).1 (at_ ws[i] b), max (spanR b (ws.take i)).2 (at_ ws[i] b)) := by
  match ws, i, h1, h with
  | x :: r, i + 1, _, h =>
    simp only [List.take_succ_cons, spanR, List.getElem_cons_succ]
    exact fold_take _ _ (by simpa using h)
theorem could_step {l : Lot} {ws : List (List Int)} {b : Nat} {g : Int} {i : Nat} (h : i < ws.length) : couldR l (ws.take (i + 1)) b g = (couldR l (ws.take i) b g || hasI (gradesL l.grades (at_ ws[i] b) (scarsOf l b)) g) := by
  unfold couldR; rw [List.take_succ_eq_append_getElem h, List.any_append]; simp
theorem must_step {l : Lot} {ws : List (List Int)} {b : Nat} {g : Int} {i : Nat} (h : i < ws.length) : mustR l (ws.take (i + 1)) b g = (mustR l (ws.take i) b g && onlyG (gradesL l.grades (at_ ws[i] b) (scarsOf l b)) g) := by
  unfold mustR; rw [List.take_succ_eq_append_getElem h, List.all_append]; simp
theorem gradeTo_yes {l : Lot} {ws : List (List Int)} {b k : Nat} {g : Int} (hg : g = (k : Int) - 1) (h : couldR l ws b g = true) : gradeTo l ws b (k + 1) = gradeTo l ws b k ++ [g] := by subst hg; simp only [gradeTo]; rw [if_pos h]
theorem gradeTo_no {l : Lot} {ws : List (List Int)} {b k : Nat} {g : Int} (hg : g = (k : Int) - 1) (h : couldR l ws b g = false) : gradeTo l ws b (k + 1) = gradeTo l ws b k := by subst hg; simp only [gradeTo]; rw [if_neg (by simp [h]), List.append_nil]
theorem gradeTo_len (l : Lot) (ws : List (List Int)) (b : Nat) : ∀ k, (gradeTo l ws b k).length ≤ k
  | 0 => by simp [gradeTo]
  | k + 1 => by have := gradeTo_len l ws b k; simp only [gradeTo, List.length_append]; split <;> simp <;> omega
theorem gradesL_len2 {l : Lot} (hok : l.Ok) {b : Nat} (hb : b < l.bunches.length) (h : Int) : (gradesL l.grades h (scarsOf l b)).length ≤ 10 := by
  have hbu := hok.bunch _ (List.getElem_mem hb)
  have := gradesL_len l.grades h (l.bunches[b]).slo ((l.bunches[b]).shi + 1 - (l.bunches[b]).slo).toNat
  unfold scarsOf spanL; rw [bunch_at hb]; omega
theorem only_dec {L : List Int} {g : Int} (h : L.length = 1) : onlyG L g = decide (L[0]'(by omega) = g) := by
  unfold onlyG; rw [decide_eq_true h]; simp [List.getD, h]
theorem only_not {L : List Int} {g : Int} (h : ¬ L.length = 1) : onlyG L g = false := by unfold onlyG; rw [decide_eq_false h]; rfl
theorem idxC_1 {l : Lot} {n : Int} {b : Nat} (h : ¬ (check l).2.2 = 0) : idxC l n b = (check l).2.2 := by unfold idxC; rw [if_neg h]
theorem idxC_2 {l : Lot} {n : Int} {b : Nat} (h : (check l).2.2 = 0) (h2 : ¬ (0 ≤ n ∧ n ≤ (b : Int) - 1)) : idxC l n b = 4 := by
  unfold idxC idxE; rw [if_pos h, if_pos]; unfold out; rw [Bool.or_eq_true]; simp; omega
theorem idxC_3 {l : Lot} {n : Int} {b : Nat} (h : (check l).2.2 = 0) (h2 : 0 ≤ n ∧ n ≤ (b : Int) - 1) : idxC l n b = 0 := by
  unfold idxC idxE; rw [if_pos h, if_neg]; unfold out; rw [Bool.or_eq_true]; simp; omega
theorem idxC_enter (l : Lot) (n : Int) (b : Nat) : kE l (idxC l n b) = enterE l (idxE n b) := kE_enter l (idxE n b)
theorem idxC_zero {l : Lot} {n : Int} {b : Nat} (h : idxC l n b = 0) : (check l).2.2 = 0 ∧ 0 ≤ n ∧ n < b := by
  have h1 := idxC_ok h
  unfold idxC at h
  rw [if_pos h1] at h
  exact ⟨h1, idxE_zero h⟩
end Go.Rt.Ha
/- Walks of this seat, printed by gen.py over the engine: what each function returns, in whatever world. No conditions but those of each contract. -/
set_option linter.unusedVariables false
set_option linter.unusedSimpArgs false
set_option maxRecDepth 20000
namespace Go.Proofs
open Go.Rt Go.Rt.Ha
attribute [local irreducible] WL WC Con Yd At Ats Sl Agree DW
theorem Try_Ya_fb6 (x0 : Int) (x1 : Int) (w : World) : (Instr.build 34 [(0, .int .i64 x0), (1, .int .i64 x1)].toArray).run Try.prog w = .ok (.agg #[.int .i64 x0, .int .i64 x1]) w := by kernel_rfl
theorem c72 {w0 w : World} {F : List (Nat × Obj)} (l : Lot) (p : At3) (hm : LIn w0 F l p) (e : Int) (hok : e = 0 → l.Ok) (hs : St w0 w F) :
  Con Try.prog 72 [.agg (l.cells p).toArray, .int .i64 e] w fun v w' => (kE l e ≠ 0 ∧ v = .tuple #[.slice none 0 0, .int .i64 (kE l e)] ∧ St w0 w' F) ∨ (kE l e = 0 ∧ ∃ (B : List (Nat × Obj)) (vs : List Value) (a : Option Addr) (c : Nat), v = .tuple #[.slice a (Ha.ways l 0).length c, .int .i64 0] ∧ Sl w0 B a 1 (vs.map fun v => [v]) ∧ EL w0 B vs (Ha.ways l 0) ∧ St w0 w' (B ++ F)) := by
  refine con_of_wc (n := 16) Try.func72 rfl rfl (Nat.le_of_ble_eq_true rfl) ?_
  refine w_seq (fun K2 hK1 => ?_)
  refine w_region ?_
  refine w_box (v := .agg #[.slice _ _ _, .slice _ _ _, .slice _ _ _]) (cs := [_, _, _]) want_none rfl rfl rfl hs (fun b3 w4 hs5 => ?_)
  refine w_pure want_none (y_assign (v := _) rfl rfl) rfl ?_
  refine w_pure want_none (y_assign (v := _) rfl rfl) rfl ?_
  refine w_nil ?_
  refine q_then (hK1 _ _ ?_)
  refine w_seq (fun K7 hK6 => ?_)
  refine w_seq (fun K9 hK8 => ?_)
  refine w_region ?_
  refine w_pure want_none (y_move (v := .int _ _) rfl rfl) rfl ?_
  refine w_pure want_none (y_neq rfl rfl rfl rfl) rfl ?_
  refine w_nil ?_
  refine q_then (hK8 _ _ ?_)
  refine w_cond rfl rfl (fun h10 => ?_) (fun h10 => ?_)
  ·
   try simp only [Bool.not_eq_true', Bool.not_eq_false', decide_eq_true_eq, decide_eq_false_iff_not, Int.not_lt, Int.not_le] at h10
   refine w_seq (fun K12 hK11 => ?_)
   refine w_region ?_
   refine w_pure want_none (y_move (v := .int _ _) rfl rfl) rfl ?_
   refine w_pure want_none (y_assign (v := _) rfl rfl) rfl ?_
   refine w_pure want_none (y_assign (v := .int _ _) rfl rfl) rfl ?_
   refine w_nil ?_
   refine q_then (hK11 _ _ ?_)
   refine w_ret ?_
   refine q_then_ret ?_
   refine q_ret (l := [.tmp 4, .tmp 5]) (vs := [_, _]) rfl ⟨⟨rfl, show _ = (.slice _ _ _ : Value) from rfl⟩, ⟨rfl, show _ = (.int _ _ : Value) from rfl⟩, trivial⟩ ?_
   first
     | exact .inl ⟨by rw [kE_1 (by assumption)]; assumption, by rw [kE_1 (by assumption)]; rfl, hs5.tail⟩
     | (have hw0 : Ha.ways l 0 = [] := List.length_eq_zero_iff.1 (by omega)
        exact .inl ⟨by rw [kE_2 (by assumption) hw0]; decide, by rw [kE_2 (by assumption) hw0]; rfl, hs5.tail⟩)
     | (have hw0 : Ha.ways l 0 ≠ [] := fun h => by (have := congrArg List.length h; simp only [List.length_nil] at this; omega)
        exact .inr ⟨kE_3 (by assumption) hw0, B, vs, a, c, rfl, hslB, helB, kq_own hs5⟩)
  ·
   try simp only [Bool.not_eq_true', Bool.not_eq_false', decide_eq_true_eq, decide_eq_false_iff_not, Int.not_lt, Int.not_le] at h10
   refine w_skip ?_
   refine q_then (hK6 _ _ ?_)
   refine w_seq (fun K14 hK13 => ?_)
   refine w_region ?_
   refine w_pure want_none (y_loadN (vs := [_, _, _]) Try.isAgg26 Try.sizeOf26 hs5 rfl rfl (ats_own (i := 0) (vs := [_, _, _]) rfl rfl)) rfl ?_
   refine w_call want_none Try.call45 rfl rfl rfl rfl ((by have h := c45 l p hm.cons (hok (by assumption)) none 0 [] (by simp) (Sl.nil _ _) hs5; rw [waysR_nil] at h; exact h)) ?_
   rintro _ w16 ⟨B, vs, a, c, rfl, hslB, helB, hs17⟩
   replace hs17 := (show St _ _ (B ++ (_ :: F)) from hs17)
   refine w_pure want_none (y_assign (v := .slice _ _ _) rfl rfl) rfl ?_
   refine w_nil ?_
   refine q_then (hK13 _ _ ?_)
   refine w_seq (fun K19 hK18 => ?_)
   refine w_seq (fun K21 hK20 => ?_)
   refine w_region ?_
   refine w_pure want_none (y_move (v := .slice _ _ _) rfl rfl) rfl ?_
   refine w_pure want_none (y_lenS Try.underlying64 rfl rfl) rfl ?_
   refine w_pure want_none (y_eql rfl rfl rfl rfl) rfl ?_
   refine w_nil ?_
   refine q_then (hK20 _ _ ?_)
   refine w_cond rfl rfl (fun h22 => ?_) (fun h22 => ?_)
   ·
    try simp only [Bool.not_eq_true', Bool.not_eq_false', decide_eq_true_eq, decide_eq_false_iff_not, Int.not_lt, Int.not_le] at h22
    refine w_seq (fun K24 hK23 => ?_)
    refine w_region ?_
    refine w_pure want_none (y_assign (v := _) rfl rfl) rfl ?_
    refine w_pure want_none (y_assign (v := _) rfl rfl) rfl ?_
    refine w_nil ?_
    refine q_then (hK23 _ _ ?_)
    refine w_ret ?_
    refine q_then_ret ?_
    refine q_ret (l := [.tmp 4, .tmp 5]) (vs := [_, _]) rfl ⟨⟨rfl, show _ = (.slice _ _ _ : Value) from rfl⟩, ⟨rfl, show _ = (.int _ _ : Value) from rfl⟩, trivial⟩ ?_
    first
      | exact .inl ⟨by rw [kE_1 (by assumption)]; assumption, by rw [kE_1 (by assumption)]; rfl, hs17.drop.tail⟩
      | (have hw0 : Ha.ways l 0 = [] := List.length_eq_zero_iff.1 (by omega)
         exact .inl ⟨by rw [kE_2 (by assumption) hw0]; decide, by rw [kE_2 (by assumption) hw0]; rfl, hs17.drop.tail⟩)
      | (have hw0 : Ha.ways l 0 ≠ [] := fun h => by (have := congrArg List.length h; simp only [List.length_nil] at this; omega)
         exact .inr ⟨kE_3 (by assumption) hw0, B, vs, a, c, rfl, hslB, helB, kq_own hs17⟩)
   ·
    try simp only [Bool.not_eq_true', Bool.not_eq_false', decide_eq_true_eq, decide_eq_false_iff_not, Int.not_lt, Int.not_le] at h22
    refine w_skip ?_
    refine q_then (hK18 _ _ ?_)
    refine w_seq (fun K26 hK25 => ?_)
    refine w_region ?_
    refine w_pure want_none (y_move (v := .slice _ _ _) rfl rfl) rfl ?_
    refine w_pure want_none (y_assign (v := .slice _ _ _) rfl rfl) rfl ?_
    refine w_pure want_none (y_assign (v := _) rfl rfl) rfl ?_
    refine w_nil ?_
    refine q_then (hK25 _ _ ?_)
    refine w_ret ?_
    refine q_ret (l := [.tmp 4, .tmp 5]) (vs := [_, _]) rfl ⟨⟨rfl, show _ = (.slice _ _ _ : Value) from rfl⟩, ⟨rfl, show _ = (.int _ _ : Value) from rfl⟩, trivial⟩ ?_
    first
      | exact .inl ⟨by rw [kE_1 (by assumption)]; assumption, by rw [kE_1 (by assumption)]; rfl, hs17.drop.tail⟩
      | (have hw0 : Ha.ways l 0 = [] := List.length_eq_zero_iff.1 (by omega)
         exact .inl ⟨by rw [kE_2 (by assumption) hw0]; decide, by rw [kE_2 (by assumption) hw0]; rfl, hs17.drop.tail⟩)
      | (have hw0 : Ha.ways l 0 ≠ [] := fun h => by (have := congrArg List.length h; simp only [List.length_nil] at this; omega)
         exact .inr ⟨kE_3 (by assumption) hw0, B, vs, a, c, rfl, hslB, helB, kq_own hs17⟩)

theorem c73 {w0 w : World} {F : List (Nat × Obj)} (l : Lot) (p : At3) (hm : LIn w0 F l p) (n : Int) (b : Nat) (hb : b ≤ 9223372036854775807) (hs : St w0 w F) :
  Con Try.prog 73 [.agg (l.cells p).toArray, .int .i64 n, .int .i64 (b : Int)] w fun v w' => v = .int .i64 (idxC l n b) ∧ St w0 w' F := by
  refine con_of_wc (n := 26) Try.func73 rfl rfl (Nat.le_of_ble_eq_true rfl) ?_
  refine w_seq (fun K2 hK1 => ?_)
  refine w_region ?_
  refine w_box (v := .agg #[.slice _ _ _, .slice _ _ _, .slice _ _ _]) (cs := [_, _, _]) want_none rfl rfl rfl hs (fun b3 w4 hs5 => ?_)
  refine w_pure want_none (y_assign (v := _) rfl rfl) rfl ?_
  refine w_nil ?_
  refine q_then (hK1 _ _ ?_)
  refine w_seq (fun K7 hK6 => ?_)
  refine w_region ?_
  refine w_pure want_none (y_loadN (vs := [_, _, _]) Try.isAgg26 Try.sizeOf26 hs5 rfl rfl (ats_own (i := 0) (vs := [_, _, _]) rfl rfl)) rfl ?_
  refine w_call want_none Try.call17 rfl rfl rfl rfl (c17 l p hm.cons hs5) ?_
  rintro _ w9 ⟨rfl, hs10⟩
  refine w_pure want_none (y_move (v := .tuple _) rfl rfl) rfl ?_
  refine w_pure want_none (y_extract (v := .int _ _) rfl rfl rfl) rfl ?_
  refine w_pure want_none (y_extract (v := .int _ _) rfl rfl rfl) rfl ?_
  refine w_pure want_none (y_extract (v := .int _ _) rfl rfl rfl) rfl ?_
  refine w_pure want_none (y_assign (v := .int _ _) rfl rfl) rfl ?_
  refine w_pure want_none (y_assign (v := .int _ _) rfl rfl) rfl ?_
  refine w_pure want_none (y_assign (v := .int _ _) rfl rfl) rfl ?_
  refine w_nil ?_
  refine q_then (hK6 _ _ ?_)
  refine w_seq (fun K12 hK11 => ?_)
  refine w_seq (fun K14 hK13 => ?_)
  refine w_region ?_
  refine w_pure want_none (y_move (v := .int _ _) rfl rfl) rfl ?_
  refine w_pure want_none (y_eql rfl rfl rfl rfl) rfl ?_
  refine w_pure want_none (y_move (v := .bool _) rfl rfl) rfl ?_
  refine w_split (fun h15 => ?_) (fun h15 => ?_)
  ·
   try simp only [Bool.not_eq_true', Bool.not_eq_false', decide_eq_true_eq, decide_eq_false_iff_not, Int.not_lt, Int.not_le] at h15
   refine w_pure (want_yes rfl rfl rfl) (y_move (v := .int _ _) rfl rfl) rfl ?_
   refine w_pure (want_yes rfl rfl rfl) (y_move (v := .int _ _) rfl rfl) rfl ?_
   refine w_pure (want_yes rfl rfl rfl) (y_sub rfl rfl rfl rfl (by omega) (by omega)) rfl ?_
   refine w_call (want_yes rfl rfl rfl) Try.call51 rfl rfl rfl rfl (c51 _ _ _ hs10) ?_
   rintro _ w17 ⟨rfl, hs18⟩
   refine w_pure (want_yes rfl rfl rfl) (y_not rfl rfl) rfl ?_
   refine w_pure want_none (y_pickT (v := .bool _) rfl rfl rfl rfl) rfl ?_
   refine w_nil ?_
   refine q_then (hK13 _ _ ?_)
   refine w_cond rfl rfl (fun h19 => ?_) (fun h19 => ?_)
   ·
    try simp only [Bool.not_eq_true', Bool.not_eq_false', decide_eq_true_eq, decide_eq_false_iff_not, Int.not_lt, Int.not_le] at h19
    refine w_region ?_
    refine w_pure want_none (y_assign (v := _) rfl rfl) rfl ?_
    refine w_nil ?_
    refine q_then (hK11 _ _ ?_)
    refine w_seq (fun K21 hK20 => ?_)
    refine w_region ?_
    refine w_pure want_none (y_move (v := .int _ _) rfl rfl) rfl ?_
    refine w_pure want_none (y_assign (v := .int _ _) rfl rfl) rfl ?_
    refine w_nil ?_
    refine q_then (hK20 _ _ ?_)
    refine w_ret ?_
    refine q_ret (l := [.tmp 6]) (vs := [_]) rfl ⟨⟨rfl, show _ = (.int _ _ : Value) from rfl⟩, trivial⟩ ?_
    first
      | exact ⟨congrArg (Value.int .i64) (idxC_2 (by assumption) (by assumption)).symm, hs18.tail⟩
      | exact ⟨congrArg (Value.int .i64) ((by assumption : (check l).2.2 = 0).trans (idxC_3 (by assumption) (by assumption)).symm), hs18.tail⟩
      | exact ⟨congrArg (Value.int .i64) (idxC_1 (by assumption)).symm, hs18.tail⟩
   ·
    try simp only [Bool.not_eq_true', Bool.not_eq_false', decide_eq_true_eq, decide_eq_false_iff_not, Int.not_lt, Int.not_le] at h19
    refine w_skip ?_
    refine q_then (hK11 _ _ ?_)
    refine w_seq (fun K23 hK22 => ?_)
    refine w_region ?_
    refine w_pure want_none (y_move (v := .int _ _) rfl rfl) rfl ?_
    refine w_pure want_none (y_assign (v := .int _ _) rfl rfl) rfl ?_
    refine w_nil ?_
    refine q_then (hK22 _ _ ?_)
    refine w_ret ?_
    refine q_ret (l := [.tmp 6]) (vs := [_]) rfl ⟨⟨rfl, show _ = (.int _ _ : Value) from rfl⟩, trivial⟩ ?_
    first
      | exact ⟨congrArg (Value.int .i64) (idxC_2 (by assumption) (by assumption)).symm, hs18.tail⟩
      | exact ⟨congrArg (Value.int .i64) ((by assumption : (check l).2.2 = 0).trans (idxC_3 (by assumption) (by assumption)).symm), hs18.tail⟩
      | exact ⟨congrArg (Value.int .i64) (idxC_1 (by assumption)).symm, hs18.tail⟩
  ·
   try simp only [Bool.not_eq_true', Bool.not_eq_false', decide_eq_true_eq, decide_eq_false_iff_not, Int.not_lt, Int.not_le] at h15
   refine w_skipop rfl rfl rfl ?_
   refine w_skipop rfl rfl rfl ?_
   refine w_skipop rfl rfl rfl ?_
   refine w_skipop rfl rfl rfl ?_
   refine w_skipop rfl rfl rfl ?_
   refine w_pure want_none (y_pickF (v := _) rfl rfl rfl rfl) rfl ?_
   refine w_nil ?_
   refine q_then (hK13 _ _ ?_)
   refine w_condF rfl rfl ?_
   refine w_skip ?_
   refine q_then (hK11 _ _ ?_)
   refine w_seq (fun K25 hK24 => ?_)
   refine w_region ?_
   refine w_pure want_none (y_move (v := .int _ _) rfl rfl) rfl ?_
   refine w_pure want_none (y_assign (v := .int _ _) rfl rfl) rfl ?_
   refine w_nil ?_
   refine q_then (hK24 _ _ ?_)
   refine w_ret ?_
   refine q_ret (l := [.tmp 6]) (vs := [_]) rfl ⟨⟨rfl, show _ = (.int _ _ : Value) from rfl⟩, trivial⟩ ?_
   first
     | exact ⟨congrArg (Value.int .i64) (idxC_2 (by assumption) (by assumption)).symm, hs10.tail⟩
     | exact ⟨congrArg (Value.int .i64) ((by assumption : (check l).2.2 = 0).trans (idxC_3 (by assumption) (by assumption)).symm), hs10.tail⟩
     | exact ⟨congrArg (Value.int .i64) (idxC_1 (by assumption)).symm, hs10.tail⟩

theorem c81 {w0 w : World} {F : List (Nat × Obj)} (x y n : Int) (hs : St w0 w F) :
  Con Try.prog 81 [.agg #[.int .i64 x, .int .i64 y], .int .i64 n] w fun v w' => v = .agg #[.int .i64 (min x n), .int .i64 (max y n)] ∧ St w0 w' F := by
  refine con_of_wc (n := 14) Try.func81 rfl rfl (Nat.le_of_ble_eq_true rfl) ?_
  refine w_seq (fun K2 hK1 => ?_)
  refine w_region ?_
  refine w_box (v := .agg #[.int _ _, .int _ _]) (cs := [_, _]) want_none rfl rfl rfl hs (fun b3 w4 hs5 => ?_)
  refine w_alloc (cs := [_, _]) want_none Try.zeroValue34 rfl hs5 (fun b6 w7 hs8 => ?_)
  refine w_nil ?_
  refine q_then (hK1 _ _ ?_)
  refine w_seq (fun K10 hK9 => ?_)
  refine w_region ?_
  refine w_pure want_none (y_fieldAddr (o := 0) (i := 0) Try.underlying34 rfl Try.sizeOf3 rfl rfl rfl) rfl ?_
  refine w_pure want_none (y_load1 Try.isAgg3 hs8 rfl rfl (ats_own (i := 1) (vs := [_]) rfl rfl)) rfl ?_
  refine w_pure want_none (y_move (v := .int _ _) rfl rfl) rfl ?_
  refine w_pure want_none (y_min2 rfl rfl rfl rfl) rfl ?_
  refine w_pure want_none (y_fieldAddr (o := 1) (i := 1) Try.underlying34 rfl Try.sizeOf3 rfl rfl rfl) rfl ?_
  refine w_pure want_none (y_load1 Try.isAgg3 hs8 rfl rfl (ats_own (i := 1) (vs := [_]) rfl rfl)) rfl ?_
  refine w_pure want_none (y_move (v := .int _ _) rfl rfl) rfl ?_
  refine w_pure want_none (y_max2 rfl rfl rfl rfl) rfl ?_
  refine w_pure want_none (y_build (ps := [(0, _), (1, _)]) (pv := [(0, .int _ _), (1, .int _ _)]) rfl rfl (fun w => Try_Ya_fb6 _ _ w)) rfl ?_
  refine w_store (i := 0) (v := .agg #[.int _ _, .int _ _]) (vs := [_, _]) want_none Try.sizeOf34 rfl rfl rfl rfl rfl (by simp [Value.oneCell']) hs8 rfl (Nat.le_of_ble_eq_true rfl) (fun w11 hs12 => ?_)
  refine w_nil ?_
  refine q_then (hK9 _ _ ?_)
  refine w_ret ?_
  refine q_ret (l := [.cell 4 34]) (vs := [_]) rfl ⟨⟨rfl, _, rfl, run_loadVarN (vs := [_, _]) Try.isAgg34 Try.sizeOf34 hs12 (ats_own (i := 0) (vs := [_, _]) rfl rfl)⟩, trivial⟩ ?_
  exact ⟨rfl, hs12.tail.tail⟩

theorem c74 {w0 w : World} {F : List (Nat × Obj)} (a : Option Addr) (c : Nat) (ws : List (List Int)) (vs : List Value) (hsl : Sl w0 F a 1 (vs.map fun v => [v])) (hel : EL w0 F vs ws) (hwl : ws.length ≤ 4096) (h0 : 0 < ws.length) (b : Nat) (hb : ∀ h ∈ ws, b < h.length) (hs : St w0 w F) :
  Con Try.prog 74 [.slice a ws.length c, .int .i64 (b : Int)] w fun v w' => v = .agg #[.int .i64 (spanR b ws).1, .int .i64 (spanR b ws).2] ∧ St w0 w' F := by
  refine con_of_wc (n := 36) Try.func74 rfl rfl (Nat.le_of_ble_eq_true rfl) ?_
  obtain ⟨b0, o0, e0, q0, ha, hx0, hsx0, _⟩ := el_at hsl hel h0
  subst ha
  have hb0 := hb _ (List.getElem_mem h0)
  obtain ⟨c0, p0, he0, hy0⟩ := sl_ints hsx0 hb0
  subst he0
  refine w_seq (fun K2 hK1 => ?_)
  refine w_region ?_
  refine w_alloc (cs := [_, _]) want_none Try.zeroValue34 rfl hs (fun b3 w4 hs5 => ?_)
  refine w_nil ?_
  refine q_then (hK1 _ _ ?_)
  refine w_seq (fun K7 hK6 => ?_)
  refine w_draw [14] [(0, 0), (1, 0), (2, 1), (3, 0), (4, 0), (5, 1), (6, 0), (7, 0), (8, 1), (9, 0), (10, 0), (11, 1), (12, 0), (13, 2), (14, 3)] Try_mo (drawOK_of (by kernel_rfl)) hs5 (fun w8 hs9 => ?_)
  refine d_any rfl want_none rfl (fun _ => (y_move (v := .slice _ _ _) rfl rfl)) ?_
  refine d_any rfl want_none rfl (fun _ => (y_indexS Try.underlying64 Try.sizeOf37 rfl rfl rfl rfl (i := 0) rfl (by omega))) ?_
  refine d_take rfl want_none rfl hs9 (fun _ hq => (y_load1 Try.isAgg37 hq.tail rfl rfl hx0)) ?_
  refine d_any rfl want_none rfl (fun _ => (y_move (v := .int _ _) rfl rfl)) ?_
  refine d_any rfl want_none rfl (fun _ => (y_indexS Try.underlying37 Try.sizeOf3 rfl rfl rfl rfl (i := b) rfl hb0)) ?_
  refine d_take rfl want_none rfl hs9 (fun _ hq => (y_load1 Try.isAgg3 hq.tail rfl rfl hy0)) ?_
  refine d_any rfl want_none rfl (fun _ => (y_move (v := .slice _ _ _) rfl rfl)) ?_
  refine d_any rfl want_none rfl (fun _ => (y_indexS Try.underlying64 Try.sizeOf37 rfl rfl rfl rfl (i := 0) rfl (by omega))) ?_
  refine d_take rfl want_none rfl hs9 (fun _ hq => (y_load1 Try.isAgg37 hq.tail rfl rfl hx0)) ?_
  refine d_any rfl want_none rfl (fun _ => (y_move (v := .int _ _) rfl rfl)) ?_
  refine d_any rfl want_none rfl (fun _ => (y_indexS Try.underlying37 Try.sizeOf3 rfl rfl rfl rfl (i := b) rfl hb0)) ?_
  refine d_take rfl want_none rfl hs9 (fun _ hq => (y_load1 Try.isAgg3 hq.tail rfl rfl hy0)) ?_
  refine d_any rfl want_none rfl (fun _ => (y_build (ps := [(0, _), (1, _)]) (pv := [(0, .int _ _), (1, .int _ _)]) rfl rfl (fun w => Try_Ya_fb6 _ _ w))) ?_
  refine d_eff rfl ?_
  refine w_alloc (cs := [_, _]) want_none Try.zeroValue34 rfl hs9 (fun b10 w11 hs12 => ?_)
  refine w_nil ?_
  refine qn ⟨hs12.tail, ?_⟩
  refine d_late rfl ?_
  refine w_store (i := 0) (v := .agg #[.int _ _, .int _ _]) (vs := [_, _]) want_none Try.sizeOf34 rfl rfl rfl rfl rfl (by simp [Value.oneCell']) hs12 rfl (Nat.le_of_ble_eq_true rfl) (fun w13 hs14 => ?_)
  refine w_nil ?_
  refine qn ?_
  refine d_nil ?_
  refine q_then (hK6 _ _ ?_)
  refine w_seq (fun K16 hK15 => ?_)
  refine w_seq (fun K18 hK17 => ?_)
  refine w_region ?_
  refine w_pure want_none (y_assign (v := _) rfl rfl) rfl ?_
  refine w_nil ?_
  refine q_then (hK17 _ _ ?_)
  refine w_block ?_
  refine w_loop [6, 20, 21, 22, 23, 24, 25, 26, 27, 28, 29, 30, 31, 32, 33, 34] [6] (fun k vs0 w => ∃ i : Nat, vs0 = [.int .i64 i] ∧ 1 ≤ i ∧ i ≤ ws.length ∧ k = ws.length - i ∧ St w0 w ((b10, blk 34 [.int .i64 (spanR b (ws.take i)).1, .int .i64 (spanR b (ws.take i)).2]) :: (b3, blk 34 [.int .i64 0, .int .i64 0]) :: F)) (ws.length - 1) ?_ ?_
  ·
   exact ⟨1, rfl, by omega, by omega, by omega, by rw [spanR_one h0, at_get hb0]; exact hs14⟩
  ·
   intro k vs μ w21 hI K20 hN19
   obtain ⟨i, rfl, hi1, hia, rfl, hs⟩ := hI
   refine w_seq (fun K23 hK22 => ?_)
   refine w_seq (fun K25 hK24 => ?_)
   refine w_region ?_
   refine w_pure want_none (y_move (v := .int _ _) rfl rfl) rfl ?_
   refine w_pure want_none (y_move (v := .slice _ _ _) rfl rfl) rfl ?_
   refine w_pure want_none (y_lenS Try.underlying64 rfl rfl) rfl ?_
   refine w_pure want_none (y_lss rfl rfl rfl rfl) rfl ?_
   refine w_nil ?_
   refine q_then (hK24 _ _ ?_)
   refine w_cond rfl rfl (fun h26 => ?_) (fun h26 => ?_)
   ·
    try simp only [Bool.not_eq_true', Bool.not_eq_false', decide_eq_true_eq, decide_eq_false_iff_not, Int.not_lt, Int.not_le] at h26
    refine w_skip ?_
    refine q_then (hK22 _ _ ?_)
    refine w_seq (fun K28 hK27 => ?_)
    refine w_block ?_
    have hi2 : i < ws.length := by omega
    obtain ⟨bx, ox, e2, q2, ha, hx, hsx, _⟩ := el_at hsl hel hi2
    cases ha
    have hbi := hb _ (List.getElem_mem hi2)
    obtain ⟨c1, p1, he1, hy⟩ := sl_ints hsx hbi
    subst he1
    refine w_draw [9] [(0, 1), (1, 0), (2, 0), (3, 0), (4, 1), (5, 0), (6, 0), (7, 1), (8, 2), (9, 3)] Try_mo (drawOK_of (by kernel_rfl)) hs (fun w29 hs30 => ?_)
    refine d_take rfl want_none rfl hs30 (fun _ hq => (y_loadN (vs := [_, _]) Try.isAgg34 Try.sizeOf34 hq rfl rfl (ats_own (i := 0) (vs := [_, _]) rfl rfl))) ?_
    refine d_any rfl want_none rfl (fun _ => (y_move (v := .slice _ _ _) rfl rfl)) ?_
    refine d_any rfl want_none rfl (fun _ => (y_move (v := .int _ _) rfl rfl)) ?_
    refine d_any rfl want_none rfl (fun _ => (y_indexS Try.underlying64 Try.sizeOf37 rfl rfl rfl rfl (i := _) rfl (by omega))) ?_
    refine d_take rfl want_none rfl hs30 (fun _ hq => (y_load1 Try.isAgg37 hq.tail.tail rfl rfl hx)) ?_
    refine d_any rfl want_none rfl (fun _ => (y_move (v := .int _ _) rfl rfl)) ?_
    refine d_any rfl want_none rfl (fun _ => (y_indexS Try.underlying37 Try.sizeOf3 rfl rfl rfl rfl (i := b) rfl hbi)) ?_
    refine d_take rfl want_none rfl hs30 (fun _ hq => (y_load1 Try.isAgg3 hq.tail.tail rfl rfl hy)) ?_
    refine d_eff rfl ?_
    refine w_call want_none Try.call81 rfl rfl rfl rfl (c81 _ _ _ hs30) ?_
    rintro _ w32 ⟨rfl, hs33⟩
    refine w_nil ?_
    refine qn ⟨hs33, ?_⟩
    refine d_late rfl ?_
    refine w_store (i := 0) (v := .agg #[.int _ _, .int _ _]) (vs := [_, _]) want_none Try.sizeOf34 rfl rfl rfl rfl rfl (by simp [Value.oneCell']) hs33 rfl (Nat.le_of_ble_eq_true rfl) (fun w34 hs35 => ?_)
    refine w_nil ?_
    refine qn ?_
    refine d_nil ?_
    refine q_blk_normal ?_
    refine q_then (hK27 _ _ ?_)
    refine w_region ?_
    refine w_pure want_none (y_move (v := .int _ _) rfl rfl) rfl ?_
    refine w_pure want_none (y_add rfl rfl rfl rfl (by omega) (by omega)) rfl ?_
    refine w_pure want_none (y_assign (v := .int _ _) rfl rfl) rfl ?_
    refine w_nil ?_
    refine q_then (hN19 _ _ (Nx.intro (ws.length - (i + 1)) (by omega) (by repeat (first | exact agree_mix | refine agree_upd rfl ?_ | refine agree_updL rfl ?_ _ | refine agree_mixin rfl ?_)) ?_))
    exact ⟨i + 1, rfl, by omega, by omega, rfl, by rw [spanR_step hi1 hi2, at_get hbi]; exact hs35⟩
   ·
    try simp only [Bool.not_eq_true', Bool.not_eq_false', decide_eq_true_eq, decide_eq_false_iff_not, Int.not_lt, Int.not_le] at h26
    refine w_exit ?_
    refine q_then_exit ?_
    refine q_then_exit ?_
    refine q_blk_this ?_
    refine q_then (hK15 _ _ ?_)
    refine w_seq (fun K37 hK36 => ?_)
    refine w_region ?_
    refine w_pure want_none (y_loadN (vs := [_, _]) Try.isAgg34 Try.sizeOf34 hs rfl rfl (ats_own (i := 0) (vs := [_, _]) rfl rfl)) rfl ?_
    refine w_store (i := 1) (v := .agg #[.int _ _, .int _ _]) (vs := [_, _]) want_none Try.sizeOf34 rfl rfl rfl rfl rfl (by simp [Value.oneCell']) hs rfl (Nat.le_of_ble_eq_true rfl) (fun w38 hs39 => ?_)
    refine w_nil ?_
    refine q_then (hK36 _ _ ?_)
    refine w_ret ?_
    refine q_ret (l := [.cell 4 34]) (vs := [_]) rfl ⟨⟨rfl, _, rfl, run_loadVarN (vs := [_, _]) Try.isAgg34 Try.sizeOf34 hs39 (ats_own (i := 1) (vs := [_, _]) rfl rfl)⟩, trivial⟩ ?_
    have hil : i = ws.length := by omega
    subst hil
    exact ⟨by rw [List.take_length]; rfl, hs39.tail.tail⟩

theorem c76 {w0 w : World} {F : List (Nat × Obj)} (l : Lot) (p : At3) (hm : LIn w0 F l p) (hok : l.Ok) (a : Option Addr) (c : Nat) (ws : List (List Int)) (vs : List Value) (hsl : Sl w0 F a 1 (vs.map fun v => [v])) (hel : EL w0 F vs ws) (hwl : ws.length ≤ 4096) (b : Nat) (hb2 : b < l.bunches.length) (hb : ∀ h ∈ ws, b < h.length) (g : Int) (hs : St w0 w F) :
  Con Try.prog 76 [.agg (l.cells p).toArray, .slice a ws.length c, .int .i64 (b : Int), .int .i64 g] w fun v w' => v = .bool (couldR l ws b g) ∧ St w0 w' F := by
  refine con_of_wc (n := 33) Try.func76 rfl rfl (Nat.le_of_ble_eq_true rfl) ?_
  refine w_seq (fun K2 hK1 => ?_)
  refine w_region ?_
  refine w_box (v := .agg #[.slice _ _ _, .slice _ _ _, .slice _ _ _]) (cs := [_, _, _]) want_none rfl rfl rfl hs (fun b3 w4 hs5 => ?_)
  refine w_pure want_none (y_assign (v := _) rfl rfl) rfl ?_
  refine w_nil ?_
  refine q_then (hK1 _ _ ?_)
  refine w_seq (fun K7 hK6 => ?_)
  refine w_region ?_
  refine w_pure want_none (y_assign (v := _) rfl rfl) rfl ?_
  refine w_nil ?_
  refine q_then (hK6 _ _ ?_)
  refine w_seq (fun K9 hK8 => ?_)
  refine w_seq (fun K11 hK10 => ?_)
  refine w_region ?_
  refine w_pure want_none (y_assign (v := _) rfl rfl) rfl ?_
  refine w_nil ?_
  refine q_then (hK10 _ _ ?_)
  refine w_block ?_
  refine w_loop [9, 10, 11, 12, 13, 14, 15, 16, 17, 18, 19, 20, 21, 22, 23, 24, 25, 26, 27, 28, 29, 30, 31] [9, 10] (fun k vs0 w => ∃ i : Nat, vs0 = [.bool (couldR l (ws.take i) b g), .int .i64 i] ∧ i ≤ ws.length ∧ k = ws.length - i ∧ St w0 w ((b3, blk 26 (l.cells p)) :: F)) (ws.length) ?_ ?_
  ·
   exact ⟨0, rfl, by omega, by omega, hs5⟩
  ·
   intro k vs μ w14 hI K13 hN12
   obtain ⟨i, rfl, hia, rfl, hs⟩ := hI
   generalize hcd : couldR l (ws.take i) b g = cd
   refine w_seq (fun K16 hK15 => ?_)
   refine w_seq (fun K18 hK17 => ?_)
   refine w_region ?_
   refine w_pure want_none (y_move (v := .int _ _) rfl rfl) rfl ?_
   refine w_pure want_none (y_move (v := .slice _ _ _) rfl rfl) rfl ?_
   refine w_pure want_none (y_lenS Try.underlying64 rfl rfl) rfl ?_
   refine w_pure want_none (y_lss rfl rfl rfl rfl) rfl ?_
   refine w_nil ?_
   refine q_then (hK17 _ _ ?_)
   refine w_cond rfl rfl (fun h19 => ?_) (fun h19 => ?_)
   ·
    try simp only [Bool.not_eq_true', Bool.not_eq_false', decide_eq_true_eq, decide_eq_false_iff_not, Int.not_lt, Int.not_le] at h19
    refine w_skip ?_
    refine q_then (hK15 _ _ ?_)
    refine w_seq (fun K21 hK20 => ?_)
    refine w_block ?_
    have hi2 : i < ws.length := by omega
    obtain ⟨bx, ox, e2, q2, ha, hx, hsx, _⟩ := el_at hsl hel hi2
    subst ha
    have hbi := hb _ (List.getElem_mem hi2)
    obtain ⟨c1, p1, he1, hy⟩ := sl_ints hsx hbi
    subst he1
    have hgl := gradesL_len2 hok hb2 (at_ ws[i] b)
    refine w_draw [] [(0, 0), (1, 0), (2, 1), (3, 0), (4, 0), (5, 0), (6, 0), (7, 1), (8, 0), (9, 0), (10, 1), (12, 0), (11, 2), (13, 2), (14, 0), (15, 0)] Try_mo (drawOK_of (by kernel_rfl)) hs (fun w22 hs23 => ?_)
    refine d_any rfl want_none rfl (fun _ => (y_move (v := .bool _) rfl rfl)) ?_
    refine d_any rfl want_none rfl (fun _ => (y_move (v := .bool _) rfl rfl)) ?_
    refine d_split (fun h24 => ?_) (fun h24 => ?_)
    ·
     subst h24
     refine d_skip1 rfl rfl rfl rfl hs23 ?_
     refine d_skip rfl rfl rfl rfl ?_
     refine d_skip rfl rfl rfl rfl ?_
     refine d_skip rfl rfl rfl rfl ?_
     refine d_skip rfl rfl rfl rfl ?_
     refine d_skip1 rfl rfl rfl rfl hs23 ?_
     refine d_skip rfl rfl rfl rfl ?_
     refine d_skip rfl rfl rfl rfl ?_
     refine d_skip1 rfl rfl rfl rfl hs23 ?_
     refine d_skip rfl rfl rfl rfl ?_
     refine d_eff rfl ?_
     refine w_skipop rfl rfl rfl ?_
     refine w_nil ?_
     refine qn ⟨hs23, ?_⟩
     refine d_eff rfl ?_
     refine w_skipop rfl rfl rfl ?_
     refine w_nil ?_
     refine qn ⟨hs23, ?_⟩
     refine d_any rfl want_none rfl (fun _ => (y_pickT (v := _) rfl rfl rfl rfl)) ?_
     refine d_any rfl want_none rfl (fun _ => (y_assign (v := .bool _) rfl rfl)) ?_
     refine d_nil ?_
     refine q_blk_normal ?_
     refine q_then (hK20 _ _ ?_)
     refine w_region ?_
     refine w_pure want_none (y_move (v := .int _ _) rfl rfl) rfl ?_
     refine w_pure want_none (y_add rfl rfl rfl rfl (by omega) (by omega)) rfl ?_
     refine w_pure want_none (y_assign (v := .int _ _) rfl rfl) rfl ?_
     refine w_nil ?_
     refine q_then (hN12 _ _ (Nx.intro (ws.length - (i + 1)) (by omega) (by repeat (first | exact agree_mix | refine agree_upd rfl ?_ | refine agree_updL rfl ?_ _ | refine agree_mixin rfl ?_)) ?_))
     first
       | exact ⟨i + 1, bi2 (by rw [could_step hi2, hcd]; rfl) rfl, by omega, rfl, hs23⟩
    ·
     subst h24
     refine d_take rfl (want_yes rfl rfl rfl) rfl hs23 (fun _ hq => (y_loadN (vs := [_, _, _]) Try.isAgg26 Try.sizeOf26 hq rfl rfl (ats_own (i := 0) (vs := [_, _, _]) rfl rfl))) ?_
     refine d_any rfl (want_yes rfl rfl rfl) rfl (fun _ => (y_move (v := .int _ _) rfl rfl)) ?_
     refine d_any rfl (want_yes rfl rfl rfl) rfl (fun _ => (y_move (v := .slice _ _ _) rfl rfl)) ?_
     refine d_any rfl (want_yes rfl rfl rfl) rfl (fun _ => (y_move (v := .int _ _) rfl rfl)) ?_
     refine d_any rfl (want_yes rfl rfl rfl) rfl (fun _ => (y_indexS Try.underlying64 Try.sizeOf37 rfl rfl rfl rfl (i := _) rfl (by omega))) ?_
     refine d_take rfl (want_yes rfl rfl rfl) rfl hs23 (fun _ hq => (y_load1 Try.isAgg37 hq.tail rfl rfl hx)) ?_
     refine d_any rfl (want_yes rfl rfl rfl) rfl (fun _ => (y_move (v := .int _ _) rfl rfl)) ?_
     refine d_any rfl (want_yes rfl rfl rfl) rfl (fun _ => (y_indexS Try.underlying37 Try.sizeOf3 rfl rfl rfl rfl (i := b) rfl hbi)) ?_
     refine d_take rfl (want_yes rfl rfl rfl) rfl hs23 (fun _ hq => (y_load1 Try.isAgg3 hq.tail rfl rfl hy)) ?_
     refine d_any rfl (want_yes rfl rfl rfl) rfl (fun _ => (y_move (v := .int _ _) rfl rfl)) ?_
     refine d_eff rfl ?_
     refine w_call (want_yes rfl rfl rfl) Try.call80 rfl rfl rfl rfl ((c80 l p hm.cons hok b hb2 (ws[i]'hi2)[b] hs23).mono (fun v w2 h => by rw [← at_get hbi] at h; exact h)) ?_
     rintro _ w26 ⟨GB, hownG, hs27⟩
     replace hs27 := (show St _ _ (GB ++ (_ :: F)) from hs27)
     obtain ⟨aG, cG, rfl, hslG, _, _⟩ := own_ints (w0 := w0) hownG
     refine w_nil ?_
     refine qn ⟨hs27.drop, ?_⟩
     refine d_eff rfl ?_
     refine w_call (want_yes rfl rfl rfl) Try.call43 rfl rfl rfl rfl (c43 _ _ (gradesL l.grades (at_ (ws[i]'hi2) b) (scarsOf l b)) (by omega) hslG.top _ hs27) ?_
     rintro _ w29 ⟨rfl, hs30⟩
     refine w_nil ?_
     refine qn ⟨hs30.drop, ?_⟩
     refine d_any rfl want_none rfl (fun _ => (y_pickF (v := .bool _) rfl rfl rfl rfl)) ?_
     refine d_any rfl want_none rfl (fun _ => (y_assign (v := .bool _) rfl rfl)) ?_
     refine d_nil ?_
     refine q_blk_normal ?_
     refine q_then (hK20 _ _ ?_)
     refine w_region ?_
     refine w_pure want_none (y_move (v := .int _ _) rfl rfl) rfl ?_
     refine w_pure want_none (y_add rfl rfl rfl rfl (by omega) (by omega)) rfl ?_
     refine w_pure want_none (y_assign (v := .int _ _) rfl rfl) rfl ?_
     refine w_nil ?_
     refine q_then (hN12 _ _ (Nx.intro (ws.length - (i + 1)) (by omega) (by repeat (first | exact agree_mix | refine agree_upd rfl ?_ | refine agree_updL rfl ?_ _ | refine agree_mixin rfl ?_)) ?_))
     first
       | exact ⟨i + 1, bi2 (by rw [could_step hi2, hcd]; rfl) rfl, by omega, rfl, hs30.drop⟩
   ·
    try simp only [Bool.not_eq_true', Bool.not_eq_false', decide_eq_true_eq, decide_eq_false_iff_not, Int.not_lt, Int.not_le] at h19
    refine w_exit ?_
    refine q_then_exit ?_
    refine q_then_exit ?_
    refine q_blk_this ?_
    refine q_then (hK8 _ _ ?_)
    refine w_seq (fun K32 hK31 => ?_)
    refine w_region ?_
    refine w_pure want_none (y_move (v := .bool _) rfl rfl) rfl ?_
    refine w_pure want_none (y_assign (v := .bool _) rfl rfl) rfl ?_
    refine w_nil ?_
    refine q_then (hK31 _ _ ?_)
    refine w_ret ?_
    refine q_ret (l := [.tmp 8]) (vs := [_]) rfl ⟨⟨rfl, show _ = (.bool _ : Value) from rfl⟩, trivial⟩ ?_
    have hil : i = ws.length := by omega
    subst hil
    rw [List.take_length] at hcd
    exact ⟨congrArg Value.bool hcd.symm, hs.tail⟩

theorem c83 {w0 w : World} {F : List (Nat × Obj)} (l : Lot) (p : At3) (hm : LIn w0 F l p) (hok : l.Ok) (a : Option Addr) (c : Nat) (ws : List (List Int)) (vs : List Value) (hsl : Sl w0 F a 1 (vs.map fun v => [v])) (hel : EL w0 F vs ws) (hwl : ws.length ≤ 4096) (b : Nat) (hb2 : b < l.bunches.length) (hb : ∀ h ∈ ws, b < h.length) (g : Int) (hs : St w0 w F) :
  Con Try.prog 83 [.agg (l.cells p).toArray, .slice a ws.length c, .int .i64 (b : Int), .int .i64 g] w fun v w' => v = .bool (mustR l ws b g) ∧ St w0 w' F := by
  refine con_of_wc (n := 42) Try.func83 rfl rfl (Nat.le_of_ble_eq_true rfl) ?_
  refine w_seq (fun K2 hK1 => ?_)
  refine w_region ?_
  refine w_box (v := .agg #[.slice _ _ _, .slice _ _ _, .slice _ _ _]) (cs := [_, _, _]) want_none rfl rfl rfl hs (fun b3 w4 hs5 => ?_)
  refine w_pure want_none (y_assign (v := _) rfl rfl) rfl ?_
  refine w_nil ?_
  refine q_then (hK1 _ _ ?_)
  refine w_seq (fun K7 hK6 => ?_)
  refine w_region ?_
  refine w_pure want_none (y_assign (v := _) rfl rfl) rfl ?_
  refine w_nil ?_
  refine q_then (hK6 _ _ ?_)
  refine w_seq (fun K9 hK8 => ?_)
  refine w_seq (fun K11 hK10 => ?_)
  refine w_region ?_
  refine w_pure want_none (y_assign (v := _) rfl rfl) rfl ?_
  refine w_nil ?_
  refine q_then (hK10 _ _ ?_)
  refine w_block ?_
  refine w_loop [9, 10, 11, 12, 13, 14, 15, 16, 17, 18, 19, 20, 21, 22, 23, 24, 25, 26, 27, 28, 29, 30, 31, 32, 33, 34, 35, 36, 37, 38, 39, 40] [9, 10] (fun k vs0 w => ∃ i : Nat, vs0 = [.bool (mustR l (ws.take i) b g), .int .i64 i] ∧ i ≤ ws.length ∧ k = ws.length - i ∧ St w0 w ((b3, blk 26 (l.cells p)) :: F)) (ws.length) ?_ ?_
  ·
   exact ⟨0, rfl, by omega, by omega, hs5⟩
  ·
   intro k vs μ w14 hI K13 hN12
   obtain ⟨i, rfl, hia, rfl, hs⟩ := hI
   generalize hcd : mustR l (ws.take i) b g = cd
   refine w_seq (fun K16 hK15 => ?_)
   refine w_seq (fun K18 hK17 => ?_)
   refine w_region ?_
   refine w_pure want_none (y_move (v := .int _ _) rfl rfl) rfl ?_
   refine w_pure want_none (y_move (v := .slice _ _ _) rfl rfl) rfl ?_
   refine w_pure want_none (y_lenS Try.underlying64 rfl rfl) rfl ?_
   refine w_pure want_none (y_lss rfl rfl rfl rfl) rfl ?_
   refine w_nil ?_
   refine q_then (hK17 _ _ ?_)
   refine w_cond rfl rfl (fun h19 => ?_) (fun h19 => ?_)
   ·
    try simp only [Bool.not_eq_true', Bool.not_eq_false', decide_eq_true_eq, decide_eq_false_iff_not, Int.not_lt, Int.not_le] at h19
    refine w_skip ?_
    refine q_then (hK15 _ _ ?_)
    refine w_seq (fun K21 hK20 => ?_)
    refine w_block ?_
    refine w_seq (fun K23 hK22 => ?_)
    have hi2 : i < ws.length := by omega
    obtain ⟨bx, ox, e2, q2, ha, hx, hsx, _⟩ := el_at hsl hel hi2
    subst ha
    have hbi := hb _ (List.getElem_mem hi2)
    obtain ⟨c1, p1, he1, hy⟩ := sl_ints hsx hbi
    subst he1
    have hgl := gradesL_len2 hok hb2 (at_ ws[i] b)
    refine w_draw [] [(0, 1), (1, 0), (2, 0), (3, 0), (4, 0), (5, 1), (6, 0), (7, 0), (8, 1), (9, 2), (10, 0)] Try_mo (drawOK_of (by kernel_rfl)) hs (fun w24 hs25 => ?_)
    refine d_take rfl want_none rfl hs25 (fun _ hq => (y_loadN (vs := [_, _, _]) Try.isAgg26 Try.sizeOf26 hq rfl rfl (ats_own (i := 0) (vs := [_, _, _]) rfl rfl))) ?_
    refine d_any rfl want_none rfl (fun _ => (y_move (v := .int _ _) rfl rfl)) ?_
    refine d_any rfl want_none rfl (fun _ => (y_move (v := .slice _ _ _) rfl rfl)) ?_
    refine d_any rfl want_none rfl (fun _ => (y_move (v := .int _ _) rfl rfl)) ?_
    refine d_any rfl want_none rfl (fun _ => (y_indexS Try.underlying64 Try.sizeOf37 rfl rfl rfl rfl (i := _) rfl (by omega))) ?_
    refine d_take rfl want_none rfl hs25 (fun _ hq => (y_load1 Try.isAgg37 hq.tail rfl rfl hx)) ?_
    refine d_any rfl want_none rfl (fun _ => (y_move (v := .int _ _) rfl rfl)) ?_
    refine d_any rfl want_none rfl (fun _ => (y_indexS Try.underlying37 Try.sizeOf3 rfl rfl rfl rfl (i := b) rfl hbi)) ?_
    refine d_take rfl want_none rfl hs25 (fun _ hq => (y_load1 Try.isAgg3 hq.tail rfl rfl hy)) ?_
    refine d_eff rfl ?_
    refine w_call want_none Try.call80 rfl rfl rfl rfl ((c80 l p hm.cons hok b hb2 (ws[i]'hi2)[b] hs25).mono (fun v w2 h => by rw [← at_get hbi] at h; exact h)) ?_
    rintro _ w27 ⟨GB, hownG, hs28⟩
    replace hs28 := (show St _ _ (GB ++ (_ :: F)) from hs28)
    obtain ⟨aG, cG, rfl, hslG, _, _⟩ := own_ints (w0 := w0) hownG
    refine w_nil ?_
    refine qn ⟨hs28.drop, ?_⟩
    refine d_any rfl want_none rfl (fun _ => (y_assign (v := .slice _ _ _) rfl rfl)) ?_
    refine d_nil ?_
    refine q_then (hK22 _ _ ?_)
    refine w_region ?_
    refine w_pure want_none (y_move (v := .bool _) rfl rfl) rfl ?_
    refine w_pure want_none (y_move (v := .bool _) rfl rfl) rfl ?_
    refine w_split (fun h29 => ?_) (fun h29 => ?_)
    ·
     subst h29
     refine w_pure (want_yes rfl rfl rfl) (y_move (v := .slice _ _ _) rfl rfl) rfl ?_
     refine w_pure (want_yes rfl rfl rfl) (y_lenS Try.underlying37 rfl rfl) rfl ?_
     refine w_pure (want_yes rfl rfl rfl) (y_eql rfl rfl rfl rfl) rfl ?_
     refine w_pure want_none (y_pickT (v := .bool _) rfl rfl rfl rfl) rfl ?_
     refine w_pure want_none (y_move (v := .bool _) rfl rfl) rfl ?_
     refine w_split (fun h30 => ?_) (fun h30 => ?_)
     ·
      try simp only [Bool.not_eq_true', Bool.not_eq_false', decide_eq_true_eq, decide_eq_false_iff_not, Int.not_lt, Int.not_le] at h30
      refine w_pure (want_yes rfl rfl rfl) (y_move (v := .slice _ _ _) rfl rfl) rfl ?_
      obtain ⟨bz, oz, hbz, hz0⟩ := sl_ints hslG (i := 0) (by omega)
      subst hbz
      have hz := hz0.top (F := (b3, blk 26 (l.cells p)) :: F)
      refine w_pure (want_yes rfl rfl rfl) (y_indexS Try.underlying37 Try.sizeOf3 rfl rfl rfl rfl (i := 0) rfl (by omega)) rfl ?_
      refine w_pure (want_yes rfl rfl rfl) (y_load1 Try.isAgg3 hs28 rfl rfl hz) rfl ?_
      refine w_pure (want_yes rfl rfl rfl) (y_move (v := .int _ _) rfl rfl) rfl ?_
      refine w_pure (want_yes rfl rfl rfl) (y_eql rfl rfl rfl rfl) rfl ?_
      refine w_pure want_none (y_pickT (v := .bool _) rfl rfl rfl rfl) rfl ?_
      refine w_pure want_none (y_assign (v := .bool _) rfl rfl) rfl ?_
      refine w_nil ?_
      refine q_blk_normal ?_
      refine q_then (hK20 _ _ ?_)
      refine w_region ?_
      refine w_pure want_none (y_move (v := .int _ _) rfl rfl) rfl ?_
      refine w_pure want_none (y_add rfl rfl rfl rfl (by omega) (by omega)) rfl ?_
      refine w_pure want_none (y_assign (v := .int _ _) rfl rfl) rfl ?_
      refine w_nil ?_
      refine q_then (hN12 _ _ (Nx.intro (ws.length - (i + 1)) (by omega) (by repeat (first | exact agree_mix | refine agree_upd rfl ?_ | refine agree_updL rfl ?_ _ | refine agree_mixin rfl ?_)) ?_))
      first
        | exact ⟨i + 1, bi2 (by rw [must_step hi2, hcd, only_dec (by omega)]; rfl) rfl, by omega, rfl, hs28.drop⟩
        | exact ⟨i + 1, bi2 (by rw [must_step hi2, hcd, only_not (by omega)]; rfl) rfl, by omega, rfl, hs28.drop⟩
        | exact ⟨i + 1, bi2 (by rw [must_step hi2, hcd]; rfl) rfl, by omega, rfl, hs28.drop⟩
     ·
      try simp only [Bool.not_eq_true', Bool.not_eq_false', decide_eq_true_eq, decide_eq_false_iff_not, Int.not_lt, Int.not_le] at h30
      refine w_skipop rfl rfl rfl ?_
      refine w_skipop rfl rfl rfl ?_
      refine w_skipop rfl rfl rfl ?_
      refine w_skipop rfl rfl rfl ?_
      refine w_skipop rfl rfl rfl ?_
      refine w_pure want_none (y_pickF (v := _) rfl rfl rfl rfl) rfl ?_
      refine w_pure want_none (y_assign (v := .bool _) rfl rfl) rfl ?_
      refine w_nil ?_
      refine q_blk_normal ?_
      refine q_then (hK20 _ _ ?_)
      refine w_region ?_
      refine w_pure want_none (y_move (v := .int _ _) rfl rfl) rfl ?_
      refine w_pure want_none (y_add rfl rfl rfl rfl (by omega) (by omega)) rfl ?_
      refine w_pure want_none (y_assign (v := .int _ _) rfl rfl) rfl ?_
      refine w_nil ?_
      refine q_then (hN12 _ _ (Nx.intro (ws.length - (i + 1)) (by omega) (by repeat (first | exact agree_mix | refine agree_upd rfl ?_ | refine agree_updL rfl ?_ _ | refine agree_mixin rfl ?_)) ?_))
      first
        | exact ⟨i + 1, bi2 (by rw [must_step hi2, hcd, only_dec (by omega)]; rfl) rfl, by omega, rfl, hs28.drop⟩
        | exact ⟨i + 1, bi2 (by rw [must_step hi2, hcd, only_not (by omega)]; rfl) rfl, by omega, rfl, hs28.drop⟩
        | exact ⟨i + 1, bi2 (by rw [must_step hi2, hcd]; rfl) rfl, by omega, rfl, hs28.drop⟩
    ·
     subst h29
     refine w_skipop rfl rfl rfl ?_
     refine w_skipop rfl rfl rfl ?_
     refine w_skipop rfl rfl rfl ?_
     refine w_pure want_none (y_pickF (v := _) rfl rfl rfl rfl) rfl ?_
     refine w_pure want_none (y_move (v := .bool _) rfl rfl) rfl ?_
     refine w_skipop rfl rfl rfl ?_
     refine w_skipop rfl rfl rfl ?_
     refine w_skipop rfl rfl rfl ?_
     refine w_skipop rfl rfl rfl ?_
     refine w_skipop rfl rfl rfl ?_
     refine w_pure want_none (y_pickF (v := _) rfl rfl rfl rfl) rfl ?_
     refine w_pure want_none (y_assign (v := .bool _) rfl rfl) rfl ?_
     refine w_nil ?_
     refine q_blk_normal ?_
     refine q_then (hK20 _ _ ?_)
     refine w_region ?_
     refine w_pure want_none (y_move (v := .int _ _) rfl rfl) rfl ?_
     refine w_pure want_none (y_add rfl rfl rfl rfl (by omega) (by omega)) rfl ?_
     refine w_pure want_none (y_assign (v := .int _ _) rfl rfl) rfl ?_
     refine w_nil ?_
     refine q_then (hN12 _ _ (Nx.intro (ws.length - (i + 1)) (by omega) (by repeat (first | exact agree_mix | refine agree_upd rfl ?_ | refine agree_updL rfl ?_ _ | refine agree_mixin rfl ?_)) ?_))
     first
       | exact ⟨i + 1, bi2 (by rw [must_step hi2, hcd, only_dec (by omega)]; rfl) rfl, by omega, rfl, hs28.drop⟩
       | exact ⟨i + 1, bi2 (by rw [must_step hi2, hcd, only_not (by omega)]; rfl) rfl, by omega, rfl, hs28.drop⟩
       | exact ⟨i + 1, bi2 (by rw [must_step hi2, hcd]; rfl) rfl, by omega, rfl, hs28.drop⟩
   ·
    try simp only [Bool.not_eq_true', Bool.not_eq_false', decide_eq_true_eq, decide_eq_false_iff_not, Int.not_lt, Int.not_le] at h19
    refine w_exit ?_
    refine q_then_exit ?_
    refine q_then_exit ?_
    refine q_blk_this ?_
    refine q_then (hK8 _ _ ?_)
    refine w_seq (fun K32 hK31 => ?_)
    refine w_region ?_
    refine w_pure want_none (y_move (v := .bool _) rfl rfl) rfl ?_
    refine w_pure want_none (y_assign (v := .bool _) rfl rfl) rfl ?_
    refine w_nil ?_
    refine q_then (hK31 _ _ ?_)
    refine w_ret ?_
    refine q_ret (l := [.tmp 8]) (vs := [_]) rfl ⟨⟨rfl, show _ = (.bool _ : Value) from rfl⟩, trivial⟩ ?_
    have hil : i = ws.length := by omega
    subst hil
    rw [List.take_length] at hcd
    exact ⟨congrArg Value.bool hcd.symm, hs.tail⟩

end Go.Proofs
/- Plain words of the hand layer: totals, picks and others over the ways, step by step. No conditions. -/
set_option linter.unusedSimpArgs false
set_option linter.unusedVariables false
namespace Go.Rt.Ha
theorem kE_chk (l : Lot) : kE l (check l).2.2 = enterE l 0 := by
  rw [← kE_enter l 0]
  congr 1
  split <;> omega
theorem sumsR_in {l : Lot} {g : Int} {h : List Int} (hh : ∀ b, 0 ≤ at_ h b ∧ at_ h b ≤ 12) : ∀ k, 0 ≤ (sumsR l g h k).1 ∧ (sumsR l g h k).1 ≤ 12 * k ∧ 0 ≤ (sumsR l g h k).2 ∧ (sumsR l g h k).2 ≤ 12 * k
  | 0 => by simp [sumsR]
  | k + 1 => by
    have ih := sumsR_in (l := l) (g := g) hh k
    have hx := hh k
    simp only [sumsR]
    split
    · split <;> (dsimp only; omega)
    · omega
theorem sumsR_a {l : Lot} {g : Int} {h : List Int} {k : Nat} (e : hasI (gradesL l.grades (at_ h k) (scarsOf l k)) g = true) (e2 : (gradesL l.grades (at_ h k) (scarsOf l k)).length = 1) : sumsR l g h (k + 1) = ((sumsR l g h k).1 + at_ h k, (sumsR l g h k).2 + at_ h k) := by
  simp only [sumsR]; rw [if_pos e, if_pos e2]
theorem sumsR_b {l : Lot} {g : Int} {h : List Int} {k : Nat} (e : hasI (gradesL l.grades (at_ h k) (scarsOf l k)) g = true) (e2 : ¬ (gradesL l.grades (at_ h k) (scarsOf l k)).length = 1) : sumsR l g h (k + 1) = ((sumsR l g h k).1, (sumsR l g h k).2 + at_ h k) := by
  simp only [sumsR]; rw [if_pos e, if_neg e2]
theorem sumsR_c {l : Lot} {g : Int} {h : List Int} {k : Nat} (e : hasI (gradesL l.grades (at_ h k) (scarsOf l k)) g = false) : sumsR l g h (k + 1) = sumsR l g h k := by
  simp only [sumsR]; rw [if_neg (by simp [e])]
theorem totalR_take {l : Lot} {g : Int} {ws : List (List Int)} {i : Nat} (h : i < ws.length) : totalR l g (ws.take (i + 1)) = (min (min (totalR l g (ws.take i)).1 (sumsR l g ws[i] l.bunches.length).1) (sumsR l g ws[i] l.bunches.length).2, max (max (totalR l g (ws.take i)).2 (sumsR l g ws[i] l.bunches.length).1) (sumsR l g ws[i] l.bunches.length).2) := fold_take _ _ h
theorem sureR_yes {l : Lot} {ws : List (List Int)} {i : Nat} (h : mustR l ws i (-1) = true) : sureR l ws (i + 1) = sureR l ws i ++ [(i : Int)] := by simp only [sureR]; rw [if_pos h]
theorem sureR_no {l : Lot} {ws : List (List Int)} {i : Nat} (h : mustR l ws i (-1) = false) : sureR l ws (i + 1) = sureR l ws i := by simp only [sureR]; rw [if_neg (by simp [h]), List.append_nil]
theorem mayR_yes {l : Lot} {ws : List (List Int)} {i : Nat} (h : couldR l ws i (-1) = true) : mayR l ws (i + 1) = mayR l ws i ++ [(i : Int)] := by simp only [mayR]; rw [if_pos h]
theorem mayR_no {l : Lot} {ws : List (List Int)} {i : Nat} (h : couldR l ws i (-1) = false) : mayR l ws (i + 1) = mayR l ws i := by simp only [mayR]; rw [if_neg (by simp [h]), List.append_nil]
theorem sureR_len (l : Lot) (ws : List (List Int)) : ∀ n, (sureR l ws n).length ≤ n
  | 0 => by simp [sureR]
  | n + 1 => by have := sureR_len l ws n; simp only [sureR, List.length_append]; split <;> simp <;> omega
theorem mayR_len (l : Lot) (ws : List (List Int)) : ∀ n, (mayR l ws n).length ≤ n
  | 0 => by simp [mayR]
  | n + 1 => by have := mayR_len l ws n; simp only [mayR, List.length_append]; split <;> simp <;> omega
theorem fitR_yes {l : Lot} {ws : List (List Int)} {g b : Nat} (h : noneTo l ws b g (l.grades.length - (g + 1)) = true) : fitR l ws g (b + 1) = fitR l ws g b ++ [(b : Int)] := by simp only [fitR]; rw [if_pos h]
theorem fitR_no {l : Lot} {ws : List (List Int)} {g b : Nat} (h : noneTo l ws b g (l.grades.length - (g + 1)) = false) : fitR l ws g (b + 1) = fitR l ws g b := by simp only [fitR]; rw [if_neg (by simp [h]), List.append_nil]
theorem fitR_in (l : Lot) (ws : List (List Int)) (g : Nat) : ∀ b, (fitR l ws g b).length ≤ b ∧ ∀ z ∈ fitR l ws g b, 0 ≤ z ∧ z < b
  | 0 => by simp [fitR]
  | b + 1 => by
    have ih := fitR_in l ws g b
    simp only [fitR, List.length_append]
    refine ⟨by split <;> simp <;> omega, fun z hz => ?_⟩
    rcases List.mem_append.1 hz with h | h
    · have := ih.2 z h; omega
    · split at h <;> simp at h
      omega
theorem least_take {ws : List (List Int)} {own : List Int} {i : Nat} (h : i < ws.length) : leastR (ws.take (i + 1)) own = min (leastR (ws.take i) own) (someOf ws[i] own) := fold_take _ _ h
theorem some_take {h own : List Int} {k : Nat} (hk : k < own.length) : someOf h (own.take (k + 1)) = someOf h (own.take k) + at_ h own[k].toNat := by rw [List.take_succ_eq_append_getElem hk, someOf_snoc]
theorem often_yes {b : Nat} {n : Int} {ws : List (List Int)} {i : Nat} (h : i < ws.length) (e : at_ ws[i] b = n) : often b n (ws.take (i + 1)) = often b n (ws.take i) + 1 := by rw [often_take h, if_pos e]
theorem often_no {b : Nat} {n : Int} {ws : List (List Int)} {i : Nat} (h : i < ws.length) (e : ¬ at_ ws[i] b = n) : often b n (ws.take (i + 1)) = often b n (ws.take i) := by rw [often_take h, if_neg e]; omega
theorem most_succ (b : Nat) (ws : List (List Int)) (n : Nat) : mostTo b ws (n + 1) = max (mostTo b ws n) (often b (n : Int) ws) := rfl
theorem nextR_yes {ws : List (List Int)} {k : Nat} (h : (spanR k ws).1 < (spanR k ws).2) (h2 : (nextRTo ws k).1 < 0 ∨ leftW k ws < (nextRTo ws k).2) : nextRTo ws (k + 1) = ((k : Int), leftW k ws) := by simp only [nextRTo]; rw [if_pos ⟨h, h2⟩]
theorem nextR_no {ws : List (List Int)} {k : Nat} (h : ¬ (spanR k ws).1 < (spanR k ws).2 ∨ (¬ (nextRTo ws k).1 < 0 ∧ ¬ leftW k ws < (nextRTo ws k).2)) : nextRTo ws (k + 1) = nextRTo ws k := by simp only [nextRTo]; rw [if_neg (by rintro ⟨h1, h2⟩; omega)]
/-! ### Picks -/
def pickC (l : Lot) (g m : Int) : Int := if (check l).2.2 = 0 then pickE l g m else (check l).2.2
theorem pickC_enter (l : Lot) (g m : Int) : kE l (pickC l g m) = enterE l (pickE l g m) := kE_enter l _
theorem pickC_zero {l : Lot} {g m : Int} (h : pickC l g m = 0) : (check l).2.2 = 0 ∧ pickE l g m = 0 := by
  unfold pickC at h
  split at h
  · rename_i h1; exact ⟨h1, h⟩
  · rename_i h1; exact absurd h h1
theorem pickC_e {l : Lot} {g m : Int} (h : ¬ idxC l g l.grades.length = 0) : idxC l g l.grades.length = pickC l g m := by
  unfold pickC pickE
  unfold idxC at h ⊢
  by_cases h1 : (check l).2.2 = 0
  · rw [if_pos h1] at h ⊢
    rw [if_pos h1, if_pos h]
  · rw [if_neg h1, if_neg h1]
theorem pickC_7 {l : Lot} {g m : Int} (h : idxC l g l.grades.length = 0) (h2 : ¬ (0 ≤ m ∧ m ≤ 72)) : 7 = pickC l g m := by
  have h1 := idxC_ok h
  unfold idxC at h
  rw [if_pos h1] at h
  unfold pickC pickE
  rw [if_pos h1, if_neg (by simp [h]), if_pos]
  unfold out; rw [Bool.or_eq_true]; simp; omega
theorem pickC_0 {l : Lot} {g m : Int} (h : idxC l g l.grades.length = 0) (h2 : 0 ≤ m ∧ m ≤ 72) : idxC l g l.grades.length = pickC l g m := by
  have h1 := idxC_ok h
  rw [h]
  unfold idxC at h
  rw [if_pos h1] at h
  unfold pickC pickE
  rw [if_pos h1, if_neg (by simp [h]), if_neg]
  unfold out; rw [Bool.or_eq_true]; simp; omega
theorem sets_split {s : List Int} {k n : Nat} (h : k ≤ n) : ∃ r, setsTo s n = setsTo s k ++ r := by
  obtain ⟨d, rfl⟩ : ∃ d, n = k + d := ⟨n - k, by omega⟩
  clear h
  induction d with
  | zero => exact ⟨[], by simp⟩
  | succ d ih =>
    obtain ⟨r, hr⟩ := ih
    exact ⟨r ++ setsMany s (k + d), by rw [show k + (d + 1) = (k + d) + 1 by omega, setsTo, hr, List.append_assoc]⟩
theorem find_here {s : List Int} {p : List Int → Bool} {k q : Nat} (hk : k ≤ s.length) (h1 : (setsTo s k).find? p = none) (h2 : (((choices s.length k).take q).map (pickL s)).find? p = none) (hq : q < (choices s.length k).length) (hp : p (pickL s (choices s.length k)[q]) = true) : (setsL s).find? p = some (pickL s (choices s.length k)[q]) := by
  obtain ⟨r, hr⟩ := sets_split (s := s) (k := k + 1) (n := s.length + 1) (by omega)
  unfold setsL
  rw [hr, setsTo, List.append_assoc, List.find?_append, h1, Option.none_or, List.find?_append]
  have : (setsMany s k).find? p = some (pickL s (choices s.length k)[q]) := by
    have e : setsMany s k = ((choices s.length k).take q).map (pickL s) ++ (pickL s (choices s.length k)[q] :: ((choices s.length k).drop (q + 1)).map (pickL s)) := by
      unfold setsMany
      rw [← List.map_cons (f := pickL s), ← List.drop_eq_getElem_cons hq, ← List.map_append, List.take_append_drop]
    rw [e, List.find?_append, h2, Option.none_or, List.find?_cons, hp]
  rw [this]; rfl
theorem find_next {s : List Int} {p : List Int → Bool} {k q : Nat} (h2 : (((choices s.length k).take q).map (pickL s)).find? p = none) (hq : q < (choices s.length k).length) (hp : p (pickL s (choices s.length k)[q]) = false) : (((choices s.length k).take (q + 1)).map (pickL s)).find? p = none := by
  rw [List.take_succ_eq_append_getElem hq, List.map_append, List.find?_append, h2, Option.none_or]
  simp [hp]
theorem find_on {s : List Int} {p : List Int → Bool} {k q : Nat} (h1 : (setsTo s k).find? p = none) (h2 : (((choices s.length k).take q).map (pickL s)).find? p = none) (hq : (choices s.length k).length ≤ q) : (setsTo s (k + 1)).find? p = none := by
  rw [List.take_of_length_le hq] at h2
  rw [setsTo, List.find?_append, h1, Option.none_or]; exact h2
theorem pickP_some {l : Lot} {g m : Int} {x : List Int} (he : enterE l (pickE l g m) = 0) (h : (setsL (fitR l (ways l 0) g.toNat l.bunches.length)).find? (fun own => decide (m ≤ leastR (ways l 0) own)) = some x) : pickP l g m = (x, 0) := by
  rw [← pick_same]; unfold pickR; rw [if_neg (by simp [he]), h]
theorem pickP_none {l : Lot} {g m : Int} (he : enterE l (pickE l g m) = 0) (h : (setsL (fitR l (ways l 0) g.toNat l.bunches.length)).find? (fun own => decide (m ≤ leastR (ways l 0) own)) = none) : pickP l g m = ([], 9) := by
  rw [← pick_same]; unfold pickR; rw [if_neg (by simp [he]), h]
theorem wrongP_some {l : Lot} {x : List Int} (hc : (check l).2.2 = 0) (h : (choicesTo l.counts.length l.counts.length).find? (fun x => !(waysR l x).isEmpty) = some x) : wrongP l = (x, 0) := by
  rw [← wrong_same]; unfold wrongR; rw [if_neg (by simp [hc]), h]
theorem wrongP_none {l : Lot} (hc : (check l).2.2 = 0) (h : (choicesTo l.counts.length l.counts.length).find? (fun x => !(waysR l x).isEmpty) = none) : wrongP l = ((choices l.counts.length l.counts.length).getD 0 [], 0) := by
  rw [← wrong_same]; unfold wrongR; rw [if_neg (by simp [hc]), h]
theorem cTo_split {n k m : Nat} (h : k ≤ m) : ∃ r, choicesTo n m = choicesTo n k ++ r := by
  obtain ⟨d, rfl⟩ : ∃ d, m = k + d := ⟨m - k, by omega⟩
  clear h
  induction d with
  | zero => exact ⟨[], by simp⟩
  | succ d ih =>
    obtain ⟨r, hr⟩ := ih
    exact ⟨r ++ choices n (k + d), by rw [show k + (d + 1) = (k + d) + 1 by omega, choicesTo, hr, List.append_assoc]⟩
theorem cfind_here {n : Nat} {p : List Int → Bool} {k q : Nat} (hk : k < n) (h1 : (choicesTo n k).find? p = none) (h2 : ((choices n k).take q).find? p = none) (hq : q < (choices n k).length) (hp : p (choices n k)[q] = true) : (choicesTo n n).find? p = some (choices n k)[q] := by
  obtain ⟨r, hr⟩ := cTo_split (n := n) (k := k + 1) (m := n) (by omega)
  rw [hr, choicesTo, List.append_assoc, List.find?_append, h1, Option.none_or, List.find?_append]
  have : (choices n k).find? p = some (choices n k)[q] := by
    have e : ((choices n k).take q ++ (choices n k).drop q).find? p = some (choices n k)[q] := by
      rw [List.drop_eq_getElem_cons hq, List.find?_append, h2, Option.none_or, List.find?_cons, hp]
    rwa [List.take_append_drop] at e
  rw [this]; rfl
theorem cfind_next {n : Nat} {p : List Int → Bool} {k q : Nat} (h2 : ((choices n k).take q).find? p = none) (hq : q < (choices n k).length) (hp : p (choices n k)[q] = false) : ((choices n k).take (q + 1)).find? p = none := by
  rw [List.take_succ_eq_append_getElem hq, List.find?_append, h2, Option.none_or]; simp [hp]
theorem cfind_on {n : Nat} {p : List Int → Bool} {k q : Nat} (h1 : (choicesTo n k).find? p = none) (h2 : ((choices n k).take q).find? p = none) (hq : (choices n k).length ≤ q) : (choicesTo n (k + 1)).find? p = none := by
  rw [List.take_of_length_le hq] at h2
  rw [choicesTo, List.find?_append, h1, Option.none_or]; exact h2
theorem pick_idx {s : List Int} {k q j : Nat} (hq : q < (choices s.length k).length) (hj : j < ((choices s.length k)[q]).length) : 0 ≤ ((choices s.length k)[q])[j] ∧ ((choices s.length k)[q])[j].toNat < s.length := by
  have h1 := (choices_len (below := s.length) k _ (List.getElem_mem hq)).2 _ (List.getElem_mem hj)
  omega
theorem pickL_in {s : List Int} {k q : Nat} (hq : q < (choices s.length k).length) : ∀ z ∈ pickL s (choices s.length k)[q], z ∈ s := by
  intro z hz
  unfold pickL at hz
  obtain ⟨y, hy, rfl⟩ := List.mem_map.1 hz
  have h1 := (choices_len (below := s.length) k _ (List.getElem_mem hq)).2 y hy
  have hl : y.toNat < s.length := by omega
  simp only [List.getD, List.getElem?_eq_getElem hl, Option.getD_some]
  exact List.getElem_mem hl
end Go.Rt.Ha
/- Walks of this seat, printed by gen.py over the engine: what each function returns, in whatever world. No conditions but those of each contract. -/
set_option linter.unusedVariables false
set_option linter.unusedSimpArgs false
set_option maxRecDepth 20000
namespace Go.Proofs
open Go.Rt Go.Rt.Ha
attribute [local irreducible] WL WC Con Yd At Ats Sl Agree DW
theorem Try_Yd_fb6 (x0 : Option Addr) (l0 c0 : Nat) (w : World) : (Instr.buildSlice 64 1 [(0, .slice x0 l0 c0)].toArray).run Try.prog w = .ok (.slice (some ⟨w.heap.size, 0, none⟩) 1 1) (w.alloc (Go.Rt.blk 37 [.slice x0 l0 c0])) := by kernel_rfl
theorem Try_Yd_fb7  (w : World) : (Instr.buildSlice 37 0 [].toArray).run Try.prog w = .ok (.slice (some ⟨w.heap.size, 0, none⟩) 0 0) (w.alloc (Go.Rt.blk 3 [])) := by kernel_rfl
theorem Try_Yd_fb8 (x0 : Int) (w : World) : (Instr.buildSlice 37 1 [(0, .int .i64 x0)].toArray).run Try.prog w = .ok (.slice (some ⟨w.heap.size, 0, none⟩) 1 1) (w.alloc (Go.Rt.blk 3 [.int .i64 x0])) := by kernel_rfl
theorem c87 {w0 w : World} {F : List (Nat × Obj)} (below many : Nat) (hb12 : below ≤ 11) (hm12 : many ≤ 11) (hs : St w0 w F) : Con Try.prog 87 [.int .i64 (below : Int), .int .i64 (many : Int)] w fun v w' => ∃ (B : List (Nat × Obj)) (vs : List Value) (a : Option Addr) (c : Nat), v = .slice a (choices below many).length c ∧ Sl w0 B a 1 (vs.map fun v => [v]) ∧ EL w0 B vs (choices below many) ∧ St w0 w' (B ++ F) := by
  refine con_of_wc (n := 54) Try.func87 rfl rfl (Nat.le_of_ble_eq_true rfl) ?_
  refine w_seq (fun K2 hK1 => ?_)
  refine w_region ?_
  refine w_pure want_none (y_assign (v := _) rfl rfl) rfl ?_
  refine w_nil ?_
  refine q_then (hK1 _ _ ?_)
  refine w_seq (fun K4 hK3 => ?_)
  refine w_region ?_
  refine w_bslice (ps := [(0, _)]) (pv := [(0, .slice _ _ _)]) (cs := [_]) want_none rfl rfl (fun w => Try_Yd_fb6 _ _ _ w) hs (fun b5 w6 hs7 => ?_)
  refine w_pure want_none (y_assign (v := .slice _ _ _) rfl rfl) rfl ?_
  refine w_nil ?_
  refine q_then (hK3 _ _ ?_)
  refine w_seq (fun K9 hK8 => ?_)
  refine w_seq (fun K11 hK10 => ?_)
  refine w_region ?_
  refine w_pure want_none (y_assign (v := _) rfl rfl) rfl ?_
  refine w_nil ?_
  refine q_then (hK10 _ _ ?_)
  refine w_block ?_
  refine w_loop [5, 6, 7, 8, 9, 10, 12, 13, 14, 15, 16, 17, 18, 19, 20, 21, 22, 23, 24, 25, 26, 27, 28, 29, 30, 31, 32, 33, 34, 35, 36, 37, 38, 39, 40, 41, 42, 43, 44, 45, 46, 47, 48, 49, 50, 51, 52] [5, 6] (fun kk vs0 w => ∃ (i : Nat) (vO : Value) (OB E : List (Nat × Obj)) (vs : List Value), vs0 = [vO, .int .i64 i] ∧ i ≤ many ∧ kk = many - i ∧ Rt.Own vO 37 1 (choices below i).length vs OB ∧ EL w0 E vs (choices below i) ∧ St w0 w (OB ++ (E ++ F))) (many) ?_ ?_
  ·
   exact ⟨0, _, [_], [], [.slice none 0 0], rfl, by omega, by omega, own_lit rfl (by simp [maxLen]), ⟨rfl, fun k hk => ⟨none, 0, by simp [choices] at hk; subst hk; rfl, by simp [choices] at hk; subst hk; exact Sl.nil _ _, fun _ => rfl⟩⟩, hs7⟩
  ·
   intro k vs μ w14 hI K13 hN12
   obtain ⟨i, vO, OB, E, vs, rfl, hia, rfl, hown0, hel, hs⟩ := hI
   refine w_seq (fun K16 hK15 => ?_)
   refine w_seq (fun K18 hK17 => ?_)
   refine w_region ?_
   refine w_pure want_none (y_move (v := .int _ _) rfl rfl) rfl ?_
   refine w_pure want_none (y_move (v := .int _ _) rfl rfl) rfl ?_
   refine w_pure want_none (y_lss rfl rfl rfl rfl) rfl ?_
   refine w_nil ?_
   refine q_then (hK17 _ _ ?_)
   refine w_cond rfl rfl (fun h19 => ?_) (fun h19 => ?_)
   ·
    try simp only [Bool.not_eq_true', Bool.not_eq_false', decide_eq_true_eq, decide_eq_false_iff_not, Int.not_lt, Int.not_le] at h19
    refine w_skip ?_
    refine q_then (hK15 _ _ ?_)
    refine w_seq (fun K21 hK20 => ?_)
    refine w_block ?_
    refine w_seq (fun K23 hK22 => ?_)
    have hi2 : i < many := by omega
    have hcm := choices_max (i := i) hb12 (by omega)
    have hcl := choices_len (below := below) i
    obtain ⟨aO, cO, rfl, hslO⟩ := own_sl_id (w0 := w0) hown0 hel.1 (E ++ F)
    refine w_region ?_
    refine w_pure want_none (y_assign (v := _) rfl rfl) rfl ?_
    refine w_nil ?_
    refine q_then (hK22 _ _ ?_)
    refine w_seq (fun K25 hK24 => ?_)
    refine w_seq (fun K27 hK26 => ?_)
    refine w_region ?_
    refine w_pure want_none (y_assign (v := _) rfl rfl) rfl ?_
    refine w_nil ?_
    refine q_then (hK26 _ _ ?_)
    refine w_block ?_
    refine w_loop [7, 8, 9, 10, 17, 18, 19, 20, 21, 22, 23, 24, 25, 26, 27, 28, 29, 30, 31, 32, 33, 34, 35, 36, 37, 38, 39, 40, 41, 42, 43, 44, 45, 46, 47, 48, 49, 50, 51] [7, 8] (fun kk vs0 w => ∃ (k : Nat) (vN : Value) (NB E1 : List (Nat × Obj)) (ws : List Value), vs0 = [vN, .int .i64 k] ∧ k ≤ (choices below i).length ∧ kk = (choices below i).length - k ∧ Rt.Own vN 37 1 (chTo below i k).length ws NB ∧ EL w0 E1 ws (chTo below i k) ∧ St w0 w (NB ++ (E1 ++ (OB ++ (E ++ F))))) ((choices below i).length) ?_ ?_
    ·
     exact ⟨0, _, [], [], [], rfl, by omega, by omega, own_nil 37 1, EL.nil _ _, hs⟩
    ·
     intro k vs μ w30 hI K29 hN28
     obtain ⟨k, vN, NB, E1, ws, rfl, hka, rfl, hown1, hel1, hs⟩ := hI
     refine w_seq (fun K32 hK31 => ?_)
     refine w_seq (fun K34 hK33 => ?_)
     refine w_region ?_
     refine w_pure want_none (y_move (v := .int _ _) rfl rfl) rfl ?_
     refine w_pure want_none (y_move (v := .slice _ _ _) rfl rfl) rfl ?_
     refine w_pure want_none (y_lenS Try.underlying64 rfl rfl) rfl ?_
     refine w_pure want_none (y_lss rfl rfl rfl rfl) rfl ?_
     refine w_nil ?_
     refine q_then (hK33 _ _ ?_)
     refine w_cond rfl rfl (fun h35 => ?_) (fun h35 => ?_)
     ·
      try simp only [Bool.not_eq_true', Bool.not_eq_false', decide_eq_true_eq, decide_eq_false_iff_not, Int.not_lt, Int.not_le] at h35
      refine w_skip ?_
      refine q_then (hK31 _ _ ?_)
      refine w_seq (fun K37 hK36 => ?_)
      refine w_block ?_
      refine w_seq (fun K39 hK38 => ?_)
      have hk2 : k < (choices below i).length := by omega
      obtain ⟨bx, ox, b2, c2, rfl, hx, hsx0, hnx⟩ := el_at hslO (hel.mono fun _ h => h.drop.front) hk2
      have hxl := (hcl _ (List.getElem_mem hk2)).1
      have hln := leastN_nn (List.getElem_mem hk2)
      refine w_region ?_
      refine w_pure want_none (y_assign (v := _) rfl rfl) rfl ?_
      refine w_nil ?_
      refine q_then (hK38 _ _ ?_)
      refine w_seq (fun K41 hK40 => ?_)
      refine w_cut [9, 23, 24, 25, 26, 27, 28, 29, 30, 31, 32, 33] [9] (fun vs w => vs = [.int .i64 (leastN ((choices below i)[k]'hk2))] ∧ St w0 w (NB ++ (E1 ++ (OB ++ (E ++ F))))) (fun K43 hC42 => ?_) ?_
      ·
       refine w_seq (fun K45 hK44 => ?_)
       refine w_region ?_
       refine w_pure want_none (y_move (v := .int _ _) rfl rfl) rfl ?_
       refine w_pure want_none (y_gtr rfl rfl rfl rfl) rfl ?_
       refine w_nil ?_
       refine q_then (hK44 _ _ ?_)
       refine w_cond rfl rfl (fun h46 => ?_) (fun h46 => ?_)
       ·
        try simp only [Bool.not_eq_true', Bool.not_eq_false', decide_eq_true_eq, decide_eq_false_iff_not, Int.not_lt, Int.not_le] at h46
        obtain ⟨by_, oy, hb2, hy⟩ := sl_ints (i := i - 1) hsx0 (by omega)
        subst hb2
        have hyb := (hcl _ (List.getElem_mem hk2)).2 _ (List.getElem_mem (show i - 1 < ((choices below i)[k]'hk2).length by omega))
        refine w_region ?_
        refine w_pure want_none (y_move (v := .slice _ _ _) rfl rfl) rfl ?_
        refine w_pure want_none (y_move (v := .int _ _) rfl rfl) rfl ?_
        refine w_pure want_none (y_indexS Try.underlying64 Try.sizeOf37 rfl rfl rfl rfl (i := _) rfl (by omega)) rfl ?_
        refine w_pure want_none (y_load1 Try.isAgg37 hs.drop.drop rfl rfl hx) rfl ?_
        refine w_pure want_none (y_move (v := .int _ _) rfl rfl) rfl ?_
        refine w_pure want_none (y_sub rfl rfl rfl rfl (by omega) (by omega)) rfl ?_
        refine w_pure want_none (y_indexS Try.underlying37 Try.sizeOf3 rfl rfl rfl rfl (i := i - 1) (by omega) (by omega)) rfl ?_
        refine w_pure want_none (y_load1 Try.isAgg3 hs.drop.drop rfl rfl hy) rfl ?_
        refine w_pure want_none (y_add rfl rfl rfl rfl (by omega) (by omega)) rfl ?_
        refine w_pure want_none (y_assign (v := .int _ _) rfl rfl) rfl ?_
        refine w_nil ?_
        refine q_then (hC42 _ _ (Md.intro (by repeat (first | exact agree_refl | exact agree_mix | refine agree_upd rfl ?_ | refine agree_updL rfl ?_ _ | refine agree_mixin rfl ?_)) ?_))
        first
          | exact ⟨by rw [leastN_at hxl (by omega)]; rfl, hs⟩
          | exact ⟨by have hi0 : i = 0 := (by omega); have : leastN ((choices below i)[k]'hk2) = 0 := (by unfold leastN; rw [List.getLast?_eq_none_iff.2 (List.eq_nil_of_length_eq_zero (by omega))]); rw [this]; rfl, hs⟩
       ·
        try simp only [Bool.not_eq_true', Bool.not_eq_false', decide_eq_true_eq, decide_eq_false_iff_not, Int.not_lt, Int.not_le] at h46
        refine w_skip ?_
        refine q_then (hC42 _ _ (Md.intro (by repeat (first | exact agree_refl | exact agree_mix | refine agree_upd rfl ?_ | refine agree_updL rfl ?_ _ | refine agree_mixin rfl ?_)) ?_))
        first
          | exact ⟨by rw [leastN_at hxl (by omega)]; rfl, hs⟩
          | exact ⟨by have hi0 : i = 0 := (by omega); have : leastN ((choices below i)[k]'hk2) = 0 := (by unfold leastN; rw [List.getLast?_eq_none_iff.2 (List.eq_nil_of_length_eq_zero (by omega))]); rw [this]; rfl, hs⟩
      ·
       intro vs μ w47 hM
       obtain ⟨rfl, hs⟩ := hM
       refine q_then (hK40 _ _ ?_)
       refine w_seq (fun K49 hK48 => ?_)
       refine w_region ?_
       refine w_pure want_none (y_move (v := .int _ _) rfl rfl) rfl ?_
       refine w_pure want_none (y_assign (v := .int _ _) rfl rfl) rfl ?_
       refine w_nil ?_
       refine q_then (hK48 _ _ ?_)
       refine w_block ?_
       refine w_loop [7, 10, 35, 36, 37, 38, 39, 40, 41, 42, 43, 44, 45, 46, 47, 48, 49, 50, 51] [7, 10] (fun kk vs0 w => ∃ (n : Nat) (vN : Value) (NB E1 : List (Nat × Obj)) (ws : List Value), vs0 = [vN, .int .i64 n] ∧ n ≤ below ∧ leastN ((choices below i)[k]'hk2) ≤ n ∧ kk = below - n ∧ Rt.Own vN 37 1 (chTo below i k ++ nextTo ((choices below i)[k]'hk2) n).length ws NB ∧ EL w0 E1 ws (chTo below i k ++ nextTo ((choices below i)[k]'hk2) n) ∧ St w0 w (NB ++ (E1 ++ (OB ++ (E ++ F))))) (below - (leastN ((choices below i)[k]'hk2)).toNat) ?_ ?_
       ·
        have hn0 : nextTo ((choices below i)[k]'hk2) (leastN ((choices below i)[k]'hk2)).toNat = [] := nextTo_none (by omega)
        exact ⟨(leastN ((choices below i)[k]'hk2)).toNat, vN, NB, E1, ws, by rw [Int.toNat_of_nonneg hln.1]; rfl, by omega, by omega, by omega, by rw [hn0, List.append_nil]; exact hown1, by rw [hn0, List.append_nil]; exact hel1, hs⟩
       ·
        intro k vs μ w52 hI K51 hN50
        obtain ⟨n, vN, NB, E1, ws, rfl, hqa, hqb, rfl, hown2, hel2, hs⟩ := hI
        refine w_seq (fun K54 hK53 => ?_)
        refine w_seq (fun K56 hK55 => ?_)
        refine w_region ?_
        refine w_pure want_none (y_move (v := .int _ _) rfl rfl) rfl ?_
        refine w_pure want_none (y_move (v := .int _ _) rfl rfl) rfl ?_
        refine w_pure want_none (y_lss rfl rfl rfl rfl) rfl ?_
        refine w_nil ?_
        refine q_then (hK55 _ _ ?_)
        refine w_cond rfl rfl (fun h57 => ?_) (fun h57 => ?_)
        ·
         try simp only [Bool.not_eq_true', Bool.not_eq_false', decide_eq_true_eq, decide_eq_false_iff_not, Int.not_lt, Int.not_le] at h57
         refine w_skip ?_
         refine q_then (hK53 _ _ ?_)
         refine w_seq (fun K59 hK58 => ?_)
         refine w_block ?_
         have hq2 : n < below := by omega
         have hnl := nextTo_len ((choices below i)[k]'hk2) n
         have hgl : (chTo below i k).length ≤ 285311670611 := by
           have h1 := flat_le (m := below) ((choices below i).take k) (f := fun x => nextTo x below) fun x _ => nextTo_len x below
           have h2 := choices_max (below := below) (i := i + 1) hb12 (by omega)
           have h3 := List.take_append_drop k (choices below i)
           have h4 : (choices below (i + 1)).length = (chTo below i k).length + (((choices below i).drop k).flatMap fun x => nextTo x below).length := by
             rw [← List.length_append]; unfold chTo; rw [← List.flatMap_append, h3]; rfl
           omega
         refine w_region ?_
         refine w_pure want_none (y_move (v := vN) rfl rfl) rfl ?_
         refine w_bslice (ps := []) (pv := []) (cs := []) want_none rfl rfl (fun w => Try_Yd_fb7  w) hs (fun b60 w61 hs62 => ?_)
         refine w_pure want_none (y_move (v := .slice _ _ _) rfl rfl) rfl ?_
         refine w_pure want_none (y_move (v := .int _ _) rfl rfl) rfl ?_
         refine w_pure want_none (y_indexS Try.underlying64 Try.sizeOf37 rfl rfl rfl rfl (i := _) rfl (by omega)) rfl ?_
         refine w_pure want_none (y_load1 Try.isAgg37 hs62.tail.drop.drop rfl rfl hx) rfl ?_
         refine w_append (X := ([])) (B := [_]) (rows := (((choices below i)[k]'hk2).map fun x => [Value.int .i64 x])) (sz := 1) (bytes := 8) want_none Try.underlying37 Try_info3 rfl rfl rfl rfl rfl rfl rfl rfl rfl hs62 own_made hsx0.app.app.cons (by simp) hnx (ints_one _) (by simp only [maxLen]; omega) (by omega) (fun v63 w64 B65 ho66 hs67 => ?_)
         replace hs67 := (show St _ _ (B65 ++ (NB ++ (E1 ++ (OB ++ (E ++ (F)))))) from hs67)
         refine w_pure want_none (y_move (v := .int _ _) rfl rfl) rfl ?_
         refine w_bslice (ps := [(0, _)]) (pv := [(0, .int _ _)]) (cs := [_]) want_none rfl rfl (fun w => Try_Yd_fb8 _ w) hs67 (fun b68 w69 hs70 => ?_)
         refine w_append (X := (_ :: [])) (B := B65) (rows := [[_]]) (sz := 1) (bytes := 8) want_none Try.underlying37 Try_info3 rfl rfl rfl rfl rfl rfl rfl rfl rfl hs70 ho66 (sl_own (i := 0) rfl (by simp) rfl) rfl (by simp) (by simp [Value.oneCell']) (by simp only [maxLen]; omega) (by omega) (fun v71 w72 B73 ho74 hs75 => ?_)
         replace hs75 := (show St _ _ (_ :: B73 ++ (NB ++ (E1 ++ (OB ++ (E ++ (F)))))) from hs75)
         obtain ⟨a3, c3, rfl, hsl3, hn3, _⟩ := own_ints (w0 := w0) (own_ints1 ho74)
         refine w_bslice (ps := [(0, _)]) (pv := [(0, .slice _ _ _)]) (cs := [_]) want_none rfl rfl (fun w => Try_Yd_fb6 _ _ _ w) hs75 (fun b76 w77 hs78 => ?_)
         refine w_append (X := (_ :: _ :: B73)) (B := NB) (rows := [[_]]) (sz := 1) (bytes := 24) want_none Try.underlying64 Try_info37 rfl rfl rfl rfl rfl rfl rfl rfl rfl hs78 hown2 (sl_own (i := 0) rfl (by simp) rfl) rfl (by simp) (by simp [Value.oneCell']) (by simp only [maxLen, List.length_append]; omega) (by simp only [List.length_append]; omega) (fun v79 w80 B81 ho82 hs83 => ?_)
         replace hs83 := (show St _ _ (_ :: _ :: B73 ++ (B81 ++ (E1 ++ (OB ++ (E ++ (F)))))) from hs83)
         refine w_pure want_none (y_assign (v := v79) rfl rfl) rfl ?_
         refine w_nil ?_
         refine q_blk_normal ?_
         refine q_then (hK58 _ _ ?_)
         refine w_region ?_
         refine w_pure want_none (y_move (v := .int _ _) rfl rfl) rfl ?_
         refine w_pure want_none (y_add rfl rfl rfl rfl (by omega) (by omega)) rfl ?_
         refine w_pure want_none (y_assign (v := .int _ _) rfl rfl) rfl ?_
         refine w_nil ?_
         refine q_then (hN50 _ _ (Nx.intro (below - (n + 1)) (by omega) (by repeat (first | exact agree_mix | refine agree_upd rfl ?_ | refine agree_updL rfl ?_ _ | refine agree_mixin rfl ?_)) ?_))
         exact ⟨n + 1, _, _, B73 ++ E1, _, rfl, by omega, by omega, rfl, by rw [nextTo_succ hqb, ← List.append_assoc]; exact own_el ho82, by rw [nextTo_succ hqb, ← List.append_assoc]; exact el_more hel2 hsl3 hn3, el_perm hs83⟩
        ·
         try simp only [Bool.not_eq_true', Bool.not_eq_false', decide_eq_true_eq, decide_eq_false_iff_not, Int.not_lt, Int.not_le] at h57
         refine w_exit ?_
         refine q_then_exit ?_
         refine q_then_exit ?_
         refine q_blk_this ?_
         refine q_blk_normal ?_
         refine q_then (hK36 _ _ ?_)
         refine w_region ?_
         refine w_pure want_none (y_move (v := .int _ _) rfl rfl) rfl ?_
         refine w_pure want_none (y_add rfl rfl rfl rfl (by omega) (by omega)) rfl ?_
         refine w_pure want_none (y_assign (v := .int _ _) rfl rfl) rfl ?_
         refine w_nil ?_
         refine q_then (hN28 _ _ (Nx.intro ((choices below i).length - (k + 1)) (by omega) (by repeat (first | exact agree_mix | refine agree_upd rfl ?_ | refine agree_updL rfl ?_ _ | refine agree_mixin rfl ?_)) ?_))
         have hqb : n = below := by omega
         subst hqb
         exact ⟨k + 1, vN, NB, E1, ws, rfl, by omega, by omega, by rw [chTo_succ hk2]; exact hown2, by rw [chTo_succ hk2]; exact hel2, hs⟩
     ·
      try simp only [Bool.not_eq_true', Bool.not_eq_false', decide_eq_true_eq, decide_eq_false_iff_not, Int.not_lt, Int.not_le] at h35
      refine w_exit ?_
      refine q_then_exit ?_
      refine q_then_exit ?_
      refine q_blk_this ?_
      refine q_then (hK24 _ _ ?_)
      refine w_region ?_
      refine w_pure want_none (y_move (v := vN) rfl rfl) rfl ?_
      refine w_pure want_none (y_assign (v := vN) rfl rfl) rfl ?_
      refine w_nil ?_
      refine q_blk_normal ?_
      refine q_then (hK20 _ _ ?_)
      refine w_region ?_
      refine w_pure want_none (y_move (v := .int _ _) rfl rfl) rfl ?_
      refine w_pure want_none (y_add rfl rfl rfl rfl (by omega) (by omega)) rfl ?_
      refine w_pure want_none (y_assign (v := .int _ _) rfl rfl) rfl ?_
      refine w_nil ?_
      refine q_then (hN12 _ _ (Nx.intro (many - (i + 1)) (by omega) (by repeat (first | exact agree_mix | refine agree_upd rfl ?_ | refine agree_updL rfl ?_ _ | refine agree_mixin rfl ?_)) ?_))
      rw [chTo_all (by omega)] at hown1 hel1
      exact ⟨i + 1, vN, NB, E1, ws, rfl, by omega, rfl, hown1, hel1, (hs.perm (el_drop2 NB E1 OB E F)).drop⟩
   ·
    try simp only [Bool.not_eq_true', Bool.not_eq_false', decide_eq_true_eq, decide_eq_false_iff_not, Int.not_lt, Int.not_le] at h19
    refine w_exit ?_
    refine q_then_exit ?_
    refine q_then_exit ?_
    refine q_blk_this ?_
    refine q_then (hK8 _ _ ?_)
    refine w_seq (fun K85 hK84 => ?_)
    refine w_region ?_
    refine w_pure want_none (y_move (v := vO) rfl rfl) rfl ?_
    refine w_pure want_none (y_assign (v := vO) rfl rfl) rfl ?_
    refine w_nil ?_
    refine q_then (hK84 _ _ ?_)
    refine w_ret ?_
    refine q_ret (l := [.tmp 4]) (vs := [_]) rfl ⟨⟨rfl, show _ = (vO : Value) from rfl⟩, trivial⟩ ?_
    have hin : i = many := by omega
    subst hin
    obtain ⟨aO, cO, rfl, hslO⟩ := own_sl_id (w0 := w0) hown0 hel.1 E
    exact ⟨OB ++ E, vs, aO, cO, rfl, hslO, hel.app, by rw [List.append_assoc]; exact hs⟩

theorem c46 {w0 w : World} {F : List (Nat × Obj)} (l : Lot) (p : At3) (hm : LIn w0 F l p) (hok : l.Ok) (a : Option Addr) (c : Nat) (ws : List (List Int)) (vs : List Value) (hsl : Sl w0 F a 1 (vs.map fun v => [v])) (hel : EL w0 F vs ws) (hwl : ws.length ≤ 4096) (hlen0 : ∀ h ∈ ws, h.length = l.bunches.length) (g : Nat) (hg : g < l.grades.length) (hs : St w0 w F) :
  Con Try.prog 46 [.agg (l.cells p).toArray, .slice a ws.length c, .int .i64 (g : Int)] w fun v w' => ∃ B, Rt.Own v 3 1 (fitR l ws g l.bunches.length).length (iv (fitR l ws g l.bunches.length)) B ∧ St w0 w' (B ++ F) := by
  refine con_of_wc (n := 47) Try.func46 rfl rfl (Nat.le_of_ble_eq_true rfl) ?_
  have hlg := hok.lg
  have hlb := hok.lb
  refine w_seq (fun K2 hK1 => ?_)
  refine w_region ?_
  refine w_box (v := .agg #[.slice _ _ _, .slice _ _ _, .slice _ _ _]) (cs := [_, _, _]) want_none rfl rfl rfl hs (fun b3 w4 hs5 => ?_)
  refine w_pure want_none (y_assign (v := _) rfl rfl) rfl ?_
  refine w_nil ?_
  refine q_then (hK1 _ _ ?_)
  refine w_seq (fun K7 hK6 => ?_)
  have hbx := ats_ofR (i := 0) (vs := l.cells p) hs5 rfl rfl
  refine w_region ?_
  refine w_pure want_none (y_assign (v := _) rfl rfl) rfl ?_
  refine w_nil ?_
  refine q_then (hK6 _ _ ?_)
  refine w_seq (fun K9 hK8 => ?_)
  refine w_seq (fun K11 hK10 => ?_)
  refine w_region ?_
  refine w_pure want_none (y_assign (v := _) rfl rfl) rfl ?_
  refine w_nil ?_
  refine q_then (hK10 _ _ ?_)
  refine w_block ?_
  refine w_loop [7, 8, 9, 10, 11, 12, 13, 14, 15, 16, 17, 18, 19, 20, 21, 22, 23, 24, 25, 26, 27, 28, 29, 30, 31, 32, 33, 34, 35, 36, 37, 38, 39, 40, 41, 42, 43, 44, 45] [7, 8] (fun kk vs0 w => ∃ (i : Nat) (v : Value) (OB : List (Nat × Obj)), vs0 = [v, .int .i64 i] ∧ i ≤ l.bunches.length ∧ kk = l.bunches.length - i ∧ Rt.Own v 3 1 (fitR l ws g i).length (iv (fitR l ws g i)) OB ∧ St w0 w (OB ++ ((b3, blk 26 (l.cells p)) :: F))) (l.bunches.length) ?_ ?_
  ·
   exact ⟨0, _, [], rfl, by omega, by omega, own_nil 3 1, hs5⟩
  ·
   intro k vs μ w14 hI K13 hN12
   obtain ⟨i, v, OB, rfl, hia, rfl, hown, hs⟩ := hI
   refine w_seq (fun K16 hK15 => ?_)
   refine w_seq (fun K18 hK17 => ?_)
   refine w_region ?_
   refine w_pure want_none (y_move (v := .int _ _) rfl rfl) rfl ?_
   refine w_pure want_none (y_fieldAddr (o := 1) (i := 1) Try.underlying26 rfl Try.sizeOf23 rfl rfl rfl) rfl ?_
   refine w_pure want_none (y_load1 Try.isAgg23 hs.drop rfl rfl (show Ats _ _ _ _ [_] from Ats.part hbx 1 1)) rfl ?_
   refine w_pure want_none (y_lenS Try.underlying23 rfl rfl) rfl ?_
   refine w_pure want_none (y_lss rfl rfl rfl rfl) rfl ?_
   refine w_nil ?_
   refine q_then (hK17 _ _ ?_)
   refine w_cond rfl rfl (fun h19 => ?_) (fun h19 => ?_)
   ·
    try simp only [Bool.not_eq_true', Bool.not_eq_false', decide_eq_true_eq, decide_eq_false_iff_not, Int.not_lt, Int.not_le] at h19
    refine w_skip ?_
    refine q_then (hK15 _ _ ?_)
    refine w_seq (fun K21 hK20 => ?_)
    refine w_block ?_
    refine w_seq (fun K23 hK22 => ?_)
    have hi2 : i < l.bunches.length := by omega
    have hfl := (fitR_in l ws g i).1
    refine w_region ?_
    refine w_pure want_none (y_loadN (vs := [_, _, _]) Try.isAgg26 Try.sizeOf26 hs.drop rfl rfl hbx) rfl ?_
    refine w_pure want_none (y_move (v := .slice _ _ _) rfl rfl) rfl ?_
    refine w_pure want_none (y_move (v := .int _ _) rfl rfl) rfl ?_
    refine w_call want_none Try.call76 rfl rfl rfl rfl (c76 l p hm.cons.app hok _ _ ws vs hsl.cons.app hel.cons.app hwl i hi2 (fun h hh => by rw [hlen0 h hh]; omega) (-1) hs) ?_
    rintro _ w25 ⟨rfl, hs26⟩
    refine w_pure want_none (y_not rfl rfl) rfl ?_
    refine w_pure want_none (y_assign (v := .bool _) rfl rfl) rfl ?_
    refine w_nil ?_
    refine q_then (hK22 _ _ ?_)
    refine w_seq (fun K28 hK27 => ?_)
    refine w_seq (fun K30 hK29 => ?_)
    refine w_region ?_
    refine w_pure want_none (y_move (v := .int _ _) rfl rfl) rfl ?_
    refine w_pure want_none (y_add rfl rfl rfl rfl (by omega) (by omega)) rfl ?_
    refine w_pure want_none (y_assign (v := .int _ _) rfl rfl) rfl ?_
    refine w_nil ?_
    refine q_then (hK29 _ _ ?_)
    refine w_block ?_
    refine w_loop [9, 10, 25, 26, 27, 28, 29, 30, 31, 32, 33, 34, 35, 36, 37, 38, 39, 40] [9, 10] (fun kk vs0 w => ∃ (q : Nat), vs0 = [.bool (noneTo l ws i g q), .int .i64 ((g : Int) + 1 + q)] ∧ q ≤ (l.grades.length - (g + 1)) ∧ kk = (l.grades.length - (g + 1)) - q ∧ St w0 w (OB ++ ((b3, blk 26 (l.cells p)) :: F))) ((l.grades.length - (g + 1))) ?_ ?_
    ·
     exact ⟨0, bi2 rfl (by omega), by omega, by omega, hs26⟩
    ·
     intro k vs μ w33 hI K32 hN31
     obtain ⟨q, rfl, hqa, rfl, hs⟩ := hI
     generalize hnt : (noneTo l ws i g q) = nt
     refine w_seq (fun K35 hK34 => ?_)
     refine w_seq (fun K37 hK36 => ?_)
     refine w_region ?_
     refine w_pure want_none (y_move (v := .int _ _) rfl rfl) rfl ?_
     refine w_pure want_none (y_fieldAddr (o := 0) (i := 0) Try.underlying26 rfl Try.sizeOf22 rfl rfl rfl) rfl ?_
     refine w_pure want_none (y_load1 Try.isAgg22 hs.drop rfl rfl (show Ats _ _ _ _ [_] from Ats.part hbx 0 1)) rfl ?_
     refine w_pure want_none (y_lenS Try.underlying22 rfl rfl) rfl ?_
     refine w_pure want_none (y_lss rfl rfl rfl rfl) rfl ?_
     refine w_nil ?_
     refine q_then (hK36 _ _ ?_)
     refine w_cond rfl rfl (fun h38 => ?_) (fun h38 => ?_)
     ·
      try simp only [Bool.not_eq_true', Bool.not_eq_false', decide_eq_true_eq, decide_eq_false_iff_not, Int.not_lt, Int.not_le] at h38
      refine w_skip ?_
      refine q_then (hK34 _ _ ?_)
      refine w_seq (fun K40 hK39 => ?_)
      refine w_block ?_
      refine w_region ?_
      refine w_pure want_none (y_move (v := .bool _) rfl rfl) rfl ?_
      refine w_pure want_none (y_move (v := .bool _) rfl rfl) rfl ?_
      refine w_split (fun h41 => ?_) (fun h41 => ?_)
      ·
       subst h41
       refine w_pure (want_yes rfl rfl rfl) (y_loadN (vs := [_, _, _]) Try.isAgg26 Try.sizeOf26 hs.drop rfl rfl hbx) rfl ?_
       refine w_pure (want_yes rfl rfl rfl) (y_move (v := .slice _ _ _) rfl rfl) rfl ?_
       refine w_pure (want_yes rfl rfl rfl) (y_move (v := .int _ _) rfl rfl) rfl ?_
       refine w_pure (want_yes rfl rfl rfl) (y_move (v := .int _ _) rfl rfl) rfl ?_
       refine w_call (want_yes rfl rfl rfl) Try.call76 rfl rfl rfl rfl (c76 l p hm.cons.app hok _ _ ws vs hsl.cons.app hel.cons.app hwl i hi2 (fun h hh => by rw [hlen0 h hh]; omega) ((g : Int) + 1 + q) hs) ?_
       rintro _ w43 ⟨rfl, hs44⟩
       refine w_pure (want_yes rfl rfl rfl) (y_not rfl rfl) rfl ?_
       refine w_pure want_none (y_pickT (v := .bool _) rfl rfl rfl rfl) rfl ?_
       refine w_pure want_none (y_assign (v := .bool _) rfl rfl) rfl ?_
       refine w_nil ?_
       refine q_blk_normal ?_
       refine q_then (hK39 _ _ ?_)
       refine w_region ?_
       refine w_pure want_none (y_move (v := .int _ _) rfl rfl) rfl ?_
       refine w_pure want_none (y_add rfl rfl rfl rfl (by omega) (by omega)) rfl ?_
       refine w_pure want_none (y_assign (v := .int _ _) rfl rfl) rfl ?_
       refine w_nil ?_
       refine q_then (hN31 _ _ (Nx.intro ((l.grades.length - (g + 1)) - (q + 1)) (by omega) (by repeat (first | exact agree_mix | refine agree_upd rfl ?_ | refine agree_updL rfl ?_ _ | refine agree_mixin rfl ?_)) ?_))
       exact ⟨q + 1, bi2 (by simp only [noneTo]; rw [hnt]; rfl) (by omega), by omega, rfl, hs44⟩
      ·
       subst h41
       refine w_skipop rfl rfl rfl ?_
       refine w_skipop rfl rfl rfl ?_
       refine w_skipop rfl rfl rfl ?_
       refine w_skipop rfl rfl rfl ?_
       refine w_skipop rfl rfl rfl ?_
       refine w_skipop rfl rfl rfl ?_
       refine w_pure want_none (y_pickF (v := _) rfl rfl rfl rfl) rfl ?_
       refine w_pure want_none (y_assign (v := .bool _) rfl rfl) rfl ?_
       refine w_nil ?_
       refine q_blk_normal ?_
       refine q_then (hK39 _ _ ?_)
       refine w_region ?_
       refine w_pure want_none (y_move (v := .int _ _) rfl rfl) rfl ?_
       refine w_pure want_none (y_add rfl rfl rfl rfl (by omega) (by omega)) rfl ?_
       refine w_pure want_none (y_assign (v := .int _ _) rfl rfl) rfl ?_
       refine w_nil ?_
       refine q_then (hN31 _ _ (Nx.intro ((l.grades.length - (g + 1)) - (q + 1)) (by omega) (by repeat (first | exact agree_mix | refine agree_upd rfl ?_ | refine agree_updL rfl ?_ _ | refine agree_mixin rfl ?_)) ?_))
       exact ⟨q + 1, bi2 (by simp only [noneTo]; rw [hnt]; rfl) (by omega), by omega, rfl, hs⟩
     ·
      try simp only [Bool.not_eq_true', Bool.not_eq_false', decide_eq_true_eq, decide_eq_false_iff_not, Int.not_lt, Int.not_le] at h38
      refine w_exit ?_
      refine q_then_exit ?_
      refine q_then_exit ?_
      refine q_blk_this ?_
      refine q_then (hK27 _ _ ?_)
      refine w_seq (fun K46 hK45 => ?_)
      refine w_region ?_
      refine w_pure want_none (y_move (v := .bool _) rfl rfl) rfl ?_
      refine w_nil ?_
      refine q_then (hK45 _ _ ?_)
      refine w_cond rfl rfl (fun h47 => ?_) (fun h47 => ?_)
      ·
       subst h47
       refine w_region ?_
       refine w_pure want_none (y_move (v := v) rfl rfl) rfl ?_
       refine w_pure want_none (y_move (v := .int _ _) rfl rfl) rfl ?_
       refine w_bslice (ps := [(0, _)]) (pv := [(0, .int _ _)]) (cs := [_]) want_none rfl rfl (fun w => Try_Yd_fb8 _ w) hs (fun b48 w49 hs50 => ?_)
       refine w_append (X := (_ :: [])) (B := OB) (rows := [[_]]) (sz := 1) (bytes := 8) want_none Try.underlying37 Try_info3 rfl rfl rfl rfl rfl rfl rfl rfl rfl hs50 hown (sl_own (i := 0) rfl (by simp) rfl) rfl (by simp) (by simp [Value.oneCell']) (by simp only [maxLen]; omega) (by omega) (fun v51 w52 B53 ho54 hs55 => ?_)
       replace hs55 := (show St _ _ (_ :: B53 ++ (_ :: F)) from hs55)
       refine w_pure want_none (y_assign (v := v51) rfl rfl) rfl ?_
       refine w_nil ?_
       refine q_blk_normal ?_
       refine q_then (hK20 _ _ ?_)
       refine w_region ?_
       refine w_pure want_none (y_move (v := .int _ _) rfl rfl) rfl ?_
       refine w_pure want_none (y_add rfl rfl rfl rfl (by omega) (by omega)) rfl ?_
       refine w_pure want_none (y_assign (v := .int _ _) rfl rfl) rfl ?_
       refine w_nil ?_
       refine q_then (hN12 _ _ (Nx.intro (l.bunches.length - (i + 1)) (by omega) (by repeat (first | exact agree_mix | refine agree_upd rfl ?_ | refine agree_updL rfl ?_ _ | refine agree_mixin rfl ?_)) ?_))
       have hqn : q = (l.grades.length - (g + 1)) := by omega
       subst hqn
       exact ⟨i + 1, _, _, rfl, by omega, rfl, by rw [fitR_yes hnt]; exact own_snoc ho54, hs55.tail⟩
      ·
       subst h47
       refine w_skip ?_
       refine q_blk_normal ?_
       refine q_then (hK20 _ _ ?_)
       refine w_region ?_
       refine w_pure want_none (y_move (v := .int _ _) rfl rfl) rfl ?_
       refine w_pure want_none (y_add rfl rfl rfl rfl (by omega) (by omega)) rfl ?_
       refine w_pure want_none (y_assign (v := .int _ _) rfl rfl) rfl ?_
       refine w_nil ?_
       refine q_then (hN12 _ _ (Nx.intro (l.bunches.length - (i + 1)) (by omega) (by repeat (first | exact agree_mix | refine agree_upd rfl ?_ | refine agree_updL rfl ?_ _ | refine agree_mixin rfl ?_)) ?_))
       have hqn : q = (l.grades.length - (g + 1)) := by omega
       subst hqn
       exact ⟨i + 1, v, OB, rfl, by omega, rfl, by rw [fitR_no hnt]; exact hown, hs⟩
   ·
    try simp only [Bool.not_eq_true', Bool.not_eq_false', decide_eq_true_eq, decide_eq_false_iff_not, Int.not_lt, Int.not_le] at h19
    refine w_exit ?_
    refine q_then_exit ?_
    refine q_then_exit ?_
    refine q_blk_this ?_
    refine q_then (hK8 _ _ ?_)
    refine w_seq (fun K57 hK56 => ?_)
    refine w_region ?_
    refine w_pure want_none (y_move (v := v) rfl rfl) rfl ?_
    refine w_pure want_none (y_assign (v := v) rfl rfl) rfl ?_
    refine w_nil ?_
    refine q_then (hK56 _ _ ?_)
    refine w_ret ?_
    refine q_ret (l := [.tmp 6]) (vs := [_]) rfl ⟨⟨rfl, show _ = (v : Value) from rfl⟩, trivial⟩ ?_
    have hin : i = l.bunches.length := by omega
    subst hin
    exact ⟨OB, hown, kq_own hs⟩

theorem c48 {w0 w : World} {F : List (Nat × Obj)} (a : Option Addr) (c : Nat) (ws : List (List Int)) (vs : List Value) (hsl : Sl w0 F a 1 (vs.map fun v => [v])) (hel : EL w0 F vs ws) (hwl : ws.length ≤ 4096) (n : Nat) (hlen0 : ∀ h ∈ ws, h.length = n) (h12 : ∀ h ∈ ws, ∀ b, 0 ≤ at_ h b ∧ at_ h b ≤ 12) (ao : Option Addr) (co : Nat) (own : List Int) (hol : own.length ≤ 6) (hoi : ∀ z ∈ own, 0 ≤ z ∧ z < n) (hos : Sl w0 F ao 1 (own.map fun x => [Value.int .i64 x])) (hs : St w0 w F) :
  Con Try.prog 48 [.slice a ws.length c, .slice ao own.length co] w fun v w' => v = .int .i64 (leastR ws own) ∧ St w0 w' F := by
  refine con_of_wc (n := 37) Try.func48 rfl rfl (Nat.le_of_ble_eq_true rfl) ?_
  refine w_seq (fun K2 hK1 => ?_)
  refine w_region ?_
  refine w_pure want_none (y_assign (v := _) rfl rfl) rfl ?_
  refine w_nil ?_
  refine q_then (hK1 _ _ ?_)
  refine w_seq (fun K4 hK3 => ?_)
  refine w_region ?_
  refine w_pure want_none (y_assign (v := _) rfl rfl) rfl ?_
  refine w_nil ?_
  refine q_then (hK3 _ _ ?_)
  refine w_seq (fun K6 hK5 => ?_)
  refine w_seq (fun K8 hK7 => ?_)
  refine w_region ?_
  refine w_pure want_none (y_assign (v := _) rfl rfl) rfl ?_
  refine w_nil ?_
  refine q_then (hK7 _ _ ?_)
  refine w_block ?_
  refine w_loop [5, 6, 7, 8, 9, 10, 11, 12, 13, 14, 15, 16, 17, 18, 19, 20, 21, 22, 23, 24, 25, 26, 27, 28, 29, 30, 31, 32, 33, 34, 35] [5, 6] (fun k vs0 w => ∃ (i : Nat), vs0 = [.int .i64 (leastR (ws.take i) own), .int .i64 i] ∧ i ≤ ws.length ∧ k = ws.length - i ∧ St w0 w F) (ws.length) ?_ ?_
  ·
   exact ⟨0, rfl, by omega, by omega, hs⟩
  ·
   intro k vs μ w11 hI K10 hN9
   obtain ⟨i, rfl, hia, rfl, hs⟩ := hI
   refine w_seq (fun K13 hK12 => ?_)
   refine w_seq (fun K15 hK14 => ?_)
   refine w_region ?_
   refine w_pure want_none (y_move (v := .int _ _) rfl rfl) rfl ?_
   refine w_pure want_none (y_move (v := .slice _ _ _) rfl rfl) rfl ?_
   refine w_pure want_none (y_lenS Try.underlying64 rfl rfl) rfl ?_
   refine w_pure want_none (y_lss rfl rfl rfl rfl) rfl ?_
   refine w_nil ?_
   refine q_then (hK14 _ _ ?_)
   refine w_cond rfl rfl (fun h16 => ?_) (fun h16 => ?_)
   ·
    try simp only [Bool.not_eq_true', Bool.not_eq_false', decide_eq_true_eq, decide_eq_false_iff_not, Int.not_lt, Int.not_le] at h16
    refine w_skip ?_
    refine q_then (hK12 _ _ ?_)
    refine w_seq (fun K18 hK17 => ?_)
    refine w_block ?_
    refine w_seq (fun K20 hK19 => ?_)
    have hi2 : i < ws.length := by omega
    obtain ⟨bx, ox, e2, q2, ha, hx, hsx, _⟩ := el_at hsl hel hi2
    subst ha
    have hlen := hlen0 _ (List.getElem_mem hi2)
    have hwi := h12 _ (List.getElem_mem hi2)
    refine w_region ?_
    refine w_pure want_none (y_assign (v := _) rfl rfl) rfl ?_
    refine w_nil ?_
    refine q_then (hK19 _ _ ?_)
    refine w_seq (fun K22 hK21 => ?_)
    refine w_seq (fun K24 hK23 => ?_)
    refine w_region ?_
    refine w_pure want_none (y_assign (v := _) rfl rfl) rfl ?_
    refine w_nil ?_
    refine q_then (hK23 _ _ ?_)
    refine w_block ?_
    refine w_loop [7, 8, 15, 16, 17, 18, 19, 20, 21, 22, 23, 24, 25, 26, 27, 28, 29, 30, 31, 32] [7, 8] (fun k vs0 w => ∃ (q : Nat), vs0 = [.int .i64 (someOf (ws[i]'hi2) (own.take q)), .int .i64 q] ∧ q ≤ own.length ∧ k = own.length - q ∧ St w0 w F) (own.length) ?_ ?_
    ·
     exact ⟨0, rfl, by omega, by omega, hs⟩
    ·
     intro k vs μ w27 hI K26 hN25
     obtain ⟨q, rfl, hqa, rfl, hs⟩ := hI
     refine w_seq (fun K29 hK28 => ?_)
     refine w_seq (fun K31 hK30 => ?_)
     refine w_region ?_
     refine w_pure want_none (y_move (v := .int _ _) rfl rfl) rfl ?_
     refine w_pure want_none (y_move (v := .slice _ _ _) rfl rfl) rfl ?_
     refine w_pure want_none (y_lenS Try.underlying37 rfl rfl) rfl ?_
     refine w_pure want_none (y_lss rfl rfl rfl rfl) rfl ?_
     refine w_nil ?_
     refine q_then (hK30 _ _ ?_)
     refine w_cond rfl rfl (fun h32 => ?_) (fun h32 => ?_)
     ·
      try simp only [Bool.not_eq_true', Bool.not_eq_false', decide_eq_true_eq, decide_eq_false_iff_not, Int.not_lt, Int.not_le] at h32
      refine w_skip ?_
      refine q_then (hK28 _ _ ?_)
      refine w_seq (fun K34 hK33 => ?_)
      refine w_block ?_
      have hq2 : q < own.length := by omega
      have hz := hoi _ (List.getElem_mem hq2)
      have hbi : (own[q]'hq2).toNat < (ws[i]'hi2).length := by omega
      obtain ⟨c1, p1, he1, hy⟩ := sl_ints hsx hbi
      subst he1
      obtain ⟨c2, p2, he2, hw⟩ := sl_ints hos hq2
      subst he2
      have hsi := someOf_in hwi (own.take q)
      have hsl2 : (own.take q).length = q := by rw [List.length_take]; omega
      have hgz := hwi (own[q]'hq2).toNat
      rw [at_get hbi] at hgz
      refine w_draw [] [(0, 0), (1, 0), (2, 0), (3, 0), (4, 1), (5, 0), (6, 0), (7, 0), (8, 1), (9, 0), (10, 1), (11, 0), (12, 0)] Try_mo (drawOK_of (by kernel_rfl)) hs (fun w35 hs36 => ?_)
      refine d_any rfl want_none rfl (fun _ => (y_move (v := .int _ _) rfl rfl)) ?_
      refine d_any rfl want_none rfl (fun _ => (y_move (v := .slice _ _ _) rfl rfl)) ?_
      refine d_any rfl want_none rfl (fun _ => (y_move (v := .int _ _) rfl rfl)) ?_
      refine d_any rfl want_none rfl (fun _ => (y_indexS Try.underlying64 Try.sizeOf37 rfl rfl rfl rfl (i := _) rfl (by omega))) ?_
      refine d_take rfl want_none rfl hs36 (fun _ hq => (y_load1 Try.isAgg37 hq rfl rfl hx)) ?_
      refine d_any rfl want_none rfl (fun _ => (y_move (v := .slice _ _ _) rfl rfl)) ?_
      refine d_any rfl want_none rfl (fun _ => (y_move (v := .int _ _) rfl rfl)) ?_
      refine d_any rfl want_none rfl (fun _ => (y_indexS Try.underlying37 Try.sizeOf3 rfl rfl rfl rfl (i := _) rfl (by omega))) ?_
      refine d_take rfl want_none rfl hs36 (fun _ hq => (y_load1 Try.isAgg3 hq rfl rfl hw)) ?_
      refine d_any rfl want_none rfl (fun _ => (y_indexS Try.underlying37 Try.sizeOf3 rfl rfl rfl rfl (i := (own[q]'hq2).toNat) (by omega) (by omega))) ?_
      refine d_take rfl want_none rfl hs36 (fun _ hq => (y_load1 Try.isAgg3 hq rfl rfl hy)) ?_
      refine d_any rfl want_none rfl (fun _ => (y_add rfl rfl rfl rfl (by omega) (by omega))) ?_
      refine d_any rfl want_none rfl (fun _ => (y_assign (v := .int _ _) rfl rfl)) ?_
      refine d_nil ?_
      refine q_blk_normal ?_
      refine q_then (hK33 _ _ ?_)
      refine w_region ?_
      refine w_pure want_none (y_move (v := .int _ _) rfl rfl) rfl ?_
      refine w_pure want_none (y_add rfl rfl rfl rfl (by omega) (by omega)) rfl ?_
      refine w_pure want_none (y_assign (v := .int _ _) rfl rfl) rfl ?_
      refine w_nil ?_
      refine q_then (hN25 _ _ (Nx.intro (own.length - (q + 1)) (by omega) (by repeat (first | exact agree_mix | refine agree_upd rfl ?_ | refine agree_updL rfl ?_ _ | refine agree_mixin rfl ?_)) ?_))
      exact ⟨q + 1, iv2 (by rw [some_take hq2, at_get hbi]) rfl, by omega, rfl, hs36⟩
     ·
      try simp only [Bool.not_eq_true', Bool.not_eq_false', decide_eq_true_eq, decide_eq_false_iff_not, Int.not_lt, Int.not_le] at h32
      refine w_exit ?_
      refine q_then_exit ?_
      refine q_then_exit ?_
      refine q_blk_this ?_
      refine q_then (hK21 _ _ ?_)
      refine w_region ?_
      refine w_pure want_none (y_move (v := .int _ _) rfl rfl) rfl ?_
      refine w_pure want_none (y_move (v := .int _ _) rfl rfl) rfl ?_
      refine w_pure want_none (y_min2 rfl rfl rfl rfl) rfl ?_
      refine w_pure want_none (y_assign (v := .int _ _) rfl rfl) rfl ?_
      refine w_nil ?_
      refine q_blk_normal ?_
      refine q_then (hK17 _ _ ?_)
      refine w_region ?_
      refine w_pure want_none (y_move (v := .int _ _) rfl rfl) rfl ?_
      refine w_pure want_none (y_add rfl rfl rfl rfl (by omega) (by omega)) rfl ?_
      refine w_pure want_none (y_assign (v := .int _ _) rfl rfl) rfl ?_
      refine w_nil ?_
      refine q_then (hN9 _ _ (Nx.intro (ws.length - (i + 1)) (by omega) (by repeat (first | exact agree_mix | refine agree_upd rfl ?_ | refine agree_updL rfl ?_ _ | refine agree_mixin rfl ?_)) ?_))
      have hqn : q = own.length := by omega
      subst hqn
      exact ⟨i + 1, iv2 (by rw [least_take hi2, List.take_length]) rfl, by omega, rfl, hs⟩
   ·
    try simp only [Bool.not_eq_true', Bool.not_eq_false', decide_eq_true_eq, decide_eq_false_iff_not, Int.not_lt, Int.not_le] at h16
    refine w_exit ?_
    refine q_then_exit ?_
    refine q_then_exit ?_
    refine q_blk_this ?_
    refine q_then (hK5 _ _ ?_)
    refine w_seq (fun K38 hK37 => ?_)
    refine w_region ?_
    refine w_pure want_none (y_move (v := .int _ _) rfl rfl) rfl ?_
    refine w_pure want_none (y_assign (v := .int _ _) rfl rfl) rfl ?_
    refine w_nil ?_
    refine q_then (hK37 _ _ ?_)
    refine w_ret ?_
    refine q_ret (l := [.tmp 4]) (vs := [_]) rfl ⟨⟨rfl, show _ = (.int _ _ : Value) from rfl⟩, trivial⟩ ?_
    have hil : i = ws.length := by omega
    subst hil
    exact ⟨by rw [List.take_length]; rfl, hs⟩

theorem c55 {w0 w : World} {F : List (Nat × Obj)} (a : Option Addr) (c : Nat) (ws : List (List Int)) (vs : List Value) (hsl : Sl w0 F a 1 (vs.map fun v => [v])) (hel : EL w0 F vs ws) (hwl : ws.length ≤ 4096) (b : Nat) (hb : ∀ h ∈ ws, b < h.length) (hs : St w0 w F) :
  Con Try.prog 55 [.slice a ws.length c, .int .i64 (b : Int)] w fun v w' => v = .int .i64 (leftW b ws) ∧ St w0 w' F := by
  refine con_of_wc (n := 34) Try.func55 rfl rfl (Nat.le_of_ble_eq_true rfl) ?_
  refine w_seq (fun K2 hK1 => ?_)
  refine w_region ?_
  refine w_pure want_none (y_assign (v := _) rfl rfl) rfl ?_
  refine w_nil ?_
  refine q_then (hK1 _ _ ?_)
  refine w_seq (fun K4 hK3 => ?_)
  refine w_region ?_
  refine w_pure want_none (y_assign (v := _) rfl rfl) rfl ?_
  refine w_nil ?_
  refine q_then (hK3 _ _ ?_)
  refine w_seq (fun K6 hK5 => ?_)
  refine w_seq (fun K8 hK7 => ?_)
  refine w_region ?_
  refine w_pure want_none (y_assign (v := _) rfl rfl) rfl ?_
  refine w_nil ?_
  refine q_then (hK7 _ _ ?_)
  refine w_block ?_
  refine w_loop [5, 6, 7, 8, 9, 10, 11, 12, 13, 14, 15, 16, 17, 18, 19, 20, 21, 22, 23, 24, 25, 26, 27, 28, 29, 30, 31, 32] [5, 6] (fun k vs0 w => ∃ (n : Nat), vs0 = [.int .i64 (mostTo b ws n), .int .i64 n] ∧ n ≤ 13 ∧ k = 13 - n ∧ St w0 w F) (13) ?_ ?_
  ·
   exact ⟨0, rfl, by omega, by omega, hs⟩
  ·
   intro k vs μ w11 hI K10 hN9
   obtain ⟨n, rfl, hna, rfl, hs⟩ := hI
   refine w_seq (fun K13 hK12 => ?_)
   refine w_seq (fun K15 hK14 => ?_)
   refine w_region ?_
   refine w_pure want_none (y_move (v := .int _ _) rfl rfl) rfl ?_
   refine w_pure want_none (y_leq rfl rfl rfl rfl) rfl ?_
   refine w_nil ?_
   refine q_then (hK14 _ _ ?_)
   refine w_cond rfl rfl (fun h16 => ?_) (fun h16 => ?_)
   ·
    try simp only [Bool.not_eq_true', Bool.not_eq_false', decide_eq_true_eq, decide_eq_false_iff_not, Int.not_lt, Int.not_le] at h16
    refine w_skip ?_
    refine q_then (hK12 _ _ ?_)
    refine w_seq (fun K18 hK17 => ?_)
    refine w_block ?_
    refine w_seq (fun K20 hK19 => ?_)
    refine w_region ?_
    refine w_pure want_none (y_assign (v := _) rfl rfl) rfl ?_
    refine w_nil ?_
    refine q_then (hK19 _ _ ?_)
    refine w_seq (fun K22 hK21 => ?_)
    refine w_seq (fun K24 hK23 => ?_)
    refine w_region ?_
    refine w_pure want_none (y_assign (v := _) rfl rfl) rfl ?_
    refine w_nil ?_
    refine q_then (hK23 _ _ ?_)
    refine w_block ?_
    refine w_loop [7, 8, 13, 14, 15, 16, 17, 18, 19, 20, 21, 22, 23, 24, 25, 26, 27, 28, 29] [7, 8] (fun k vs0 w => ∃ (i : Nat), vs0 = [.int .i64 (often b (n : Int) (ws.take i)), .int .i64 i] ∧ i ≤ ws.length ∧ k = ws.length - i ∧ St w0 w F) (ws.length) ?_ ?_
    ·
     exact ⟨0, rfl, by omega, by omega, hs⟩
    ·
     intro k vs μ w27 hI K26 hN25
     obtain ⟨i, rfl, hia, rfl, hs⟩ := hI
     refine w_seq (fun K29 hK28 => ?_)
     refine w_seq (fun K31 hK30 => ?_)
     refine w_region ?_
     refine w_pure want_none (y_move (v := .int _ _) rfl rfl) rfl ?_
     refine w_pure want_none (y_move (v := .slice _ _ _) rfl rfl) rfl ?_
     refine w_pure want_none (y_lenS Try.underlying64 rfl rfl) rfl ?_
     refine w_pure want_none (y_lss rfl rfl rfl rfl) rfl ?_
     refine w_nil ?_
     refine q_then (hK30 _ _ ?_)
     refine w_cond rfl rfl (fun h32 => ?_) (fun h32 => ?_)
     ·
      try simp only [Bool.not_eq_true', Bool.not_eq_false', decide_eq_true_eq, decide_eq_false_iff_not, Int.not_lt, Int.not_le] at h32
      refine w_skip ?_
      refine q_then (hK28 _ _ ?_)
      refine w_seq (fun K34 hK33 => ?_)
      refine w_block ?_
      refine w_seq (fun K36 hK35 => ?_)
      have hi2 : i < ws.length := by omega
      obtain ⟨bx, ox, e2, q2, ha, hx, hsx, _⟩ := el_at hsl hel hi2
      subst ha
      have hbi := hb _ (List.getElem_mem hi2)
      obtain ⟨c1, p1, he1, hy⟩ := sl_ints hsx hbi
      subst he1
      have hoi := often_in b (n : Int) (ws.take i)
      have hli : (ws.take i).length = i := by rw [List.length_take]; omega
      refine w_region ?_
      refine w_pure want_none (y_move (v := .slice _ _ _) rfl rfl) rfl ?_
      refine w_pure want_none (y_move (v := .int _ _) rfl rfl) rfl ?_
      refine w_pure want_none (y_indexS Try.underlying64 Try.sizeOf37 rfl rfl rfl rfl (i := _) rfl (by omega)) rfl ?_
      refine w_pure want_none (y_load1 Try.isAgg37 hs rfl rfl hx) rfl ?_
      refine w_pure want_none (y_move (v := .int _ _) rfl rfl) rfl ?_
      refine w_pure want_none (y_indexS Try.underlying37 Try.sizeOf3 rfl rfl rfl rfl (i := b) rfl hbi) rfl ?_
      refine w_pure want_none (y_load1 Try.isAgg3 hs rfl rfl hy) rfl ?_
      refine w_pure want_none (y_move (v := .int _ _) rfl rfl) rfl ?_
      refine w_pure want_none (y_eql rfl rfl rfl rfl) rfl ?_
      refine w_nil ?_
      refine q_then (hK35 _ _ ?_)
      refine w_cond rfl rfl (fun h37 => ?_) (fun h37 => ?_)
      ·
       try simp only [Bool.not_eq_true', Bool.not_eq_false', decide_eq_true_eq, decide_eq_false_iff_not, Int.not_lt, Int.not_le] at h37
       refine w_region ?_
       refine w_pure want_none (y_move (v := .int _ _) rfl rfl) rfl ?_
       refine w_pure want_none (y_add rfl rfl rfl rfl (by omega) (by omega)) rfl ?_
       refine w_pure want_none (y_assign (v := .int _ _) rfl rfl) rfl ?_
       refine w_nil ?_
       refine q_blk_normal ?_
       refine q_then (hK33 _ _ ?_)
       refine w_region ?_
       refine w_pure want_none (y_move (v := .int _ _) rfl rfl) rfl ?_
       refine w_pure want_none (y_add rfl rfl rfl rfl (by omega) (by omega)) rfl ?_
       refine w_pure want_none (y_assign (v := .int _ _) rfl rfl) rfl ?_
       refine w_nil ?_
       refine q_then (hN25 _ _ (Nx.intro (ws.length - (i + 1)) (by omega) (by repeat (first | exact agree_mix | refine agree_upd rfl ?_ | refine agree_updL rfl ?_ _ | refine agree_mixin rfl ?_)) ?_))
       first
         | exact ⟨i + 1, iv2 (often_yes hi2 (by rw [at_get hbi]; assumption)).symm rfl, by omega, rfl, hs⟩
         | exact ⟨i + 1, iv2 (often_no hi2 (by rw [at_get hbi]; assumption)).symm rfl, by omega, rfl, hs⟩
      ·
       try simp only [Bool.not_eq_true', Bool.not_eq_false', decide_eq_true_eq, decide_eq_false_iff_not, Int.not_lt, Int.not_le] at h37
       refine w_skip ?_
       refine q_blk_normal ?_
       refine q_then (hK33 _ _ ?_)
       refine w_region ?_
       refine w_pure want_none (y_move (v := .int _ _) rfl rfl) rfl ?_
       refine w_pure want_none (y_add rfl rfl rfl rfl (by omega) (by omega)) rfl ?_
       refine w_pure want_none (y_assign (v := .int _ _) rfl rfl) rfl ?_
       refine w_nil ?_
       refine q_then (hN25 _ _ (Nx.intro (ws.length - (i + 1)) (by omega) (by repeat (first | exact agree_mix | refine agree_upd rfl ?_ | refine agree_updL rfl ?_ _ | refine agree_mixin rfl ?_)) ?_))
       first
         | exact ⟨i + 1, iv2 (often_yes hi2 (by rw [at_get hbi]; assumption)).symm rfl, by omega, rfl, hs⟩
         | exact ⟨i + 1, iv2 (often_no hi2 (by rw [at_get hbi]; assumption)).symm rfl, by omega, rfl, hs⟩
     ·
      try simp only [Bool.not_eq_true', Bool.not_eq_false', decide_eq_true_eq, decide_eq_false_iff_not, Int.not_lt, Int.not_le] at h32
      refine w_exit ?_
      refine q_then_exit ?_
      refine q_then_exit ?_
      refine q_blk_this ?_
      refine q_then (hK21 _ _ ?_)
      refine w_region ?_
      refine w_pure want_none (y_move (v := .int _ _) rfl rfl) rfl ?_
      refine w_pure want_none (y_move (v := .int _ _) rfl rfl) rfl ?_
      refine w_pure want_none (y_max2 rfl rfl rfl rfl) rfl ?_
      refine w_pure want_none (y_assign (v := .int _ _) rfl rfl) rfl ?_
      refine w_nil ?_
      refine q_blk_normal ?_
      refine q_then (hK17 _ _ ?_)
      refine w_region ?_
      refine w_pure want_none (y_move (v := .int _ _) rfl rfl) rfl ?_
      refine w_pure want_none (y_add rfl rfl rfl rfl (by omega) (by omega)) rfl ?_
      refine w_pure want_none (y_assign (v := .int _ _) rfl rfl) rfl ?_
      refine w_nil ?_
      refine q_then (hN9 _ _ (Nx.intro (13 - (n + 1)) (by omega) (by repeat (first | exact agree_mix | refine agree_upd rfl ?_ | refine agree_updL rfl ?_ _ | refine agree_mixin rfl ?_)) ?_))
      have hil : i = ws.length := by omega
      subst hil
      exact ⟨n + 1, iv2 (by rw [most_succ, List.take_length]) rfl, by omega, rfl, hs⟩
   ·
    try simp only [Bool.not_eq_true', Bool.not_eq_false', decide_eq_true_eq, decide_eq_false_iff_not, Int.not_lt, Int.not_le] at h16
    refine w_exit ?_
    refine q_then_exit ?_
    refine q_then_exit ?_
    refine q_blk_this ?_
    refine q_then (hK5 _ _ ?_)
    refine w_seq (fun K39 hK38 => ?_)
    refine w_region ?_
    refine w_pure want_none (y_move (v := .int _ _) rfl rfl) rfl ?_
    refine w_pure want_none (y_assign (v := .int _ _) rfl rfl) rfl ?_
    refine w_nil ?_
    refine q_then (hK38 _ _ ?_)
    refine w_ret ?_
    refine q_ret (l := [.tmp 4]) (vs := [_]) rfl ⟨⟨rfl, show _ = (.int _ _ : Value) from rfl⟩, trivial⟩ ?_
    have hin : n = 13 := by omega
    subst hin
    exact ⟨rfl, hs⟩

end Go.Proofs
