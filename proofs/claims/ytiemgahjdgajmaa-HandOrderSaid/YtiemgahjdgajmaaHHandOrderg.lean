/- Own texts of this claim, joined. No conditions. -/
import Derived.Test.YtiemgahjdgajmaaHHandOrdera
import Derived.Test.YtiemgahjdgajmaaHHandOrderb
import Derived.Test.YtiemgahjdgajmaaHHandOrderc
import Derived.Test.YtiemgahjdgajmaaHHandOrderd
import Derived.Test.YtiemgahjdgajmaaHHandOrdere
import Derived.Test.YtiemgahjdgajmaaHHandOrderf
/- Walks of this seat, printed by gen.py over the engine: what each function returns, in whatever world. No conditions but those of each contract. -/
set_option linter.unusedVariables false
set_option linter.unusedSimpArgs false
set_option maxRecDepth 20000
namespace Go.Proofs
open Go.Rt Go.Rt.Ha
attribute [local irreducible] WL WC Con Yd At Ats Sl Agree DW
theorem Try_U_fb5 (x0 : Int) (w : World) : (Instr.buildSlice 37 1 [(0, .int .i64 x0)].toArray).run Try.prog w = .ok (.slice (some ⟨w.heap.size, 0, none⟩) 1 1) (w.alloc (Go.Rt.blk 3 [.int .i64 x0])) := by kernel_rfl
theorem ats_ofR {w0 w : World} {L : List (Nat × Obj)} {i b : Nat} {t : TypeId} {cs vs : List Value} (hs : St w0 w L) (hi : L[i]? = some (b, blk t cs)) (h : (cs.drop 0).take vs.length = vs) : Ats w0 L b 0 vs := ats_own hi h
theorem bi2 {a b : Bool} {c d : Int} (h : a = b) (k : c = d) : [Value.bool a, Value.int .i64 c] = [Value.bool b, Value.int .i64 d] := by rw [h, k]
theorem sl_u8 {w0 : World} {F : List (Nat × Obj)} {a : Option Addr} {l : List Int} {i : Nat} (h : Sl w0 F a 1 (l.map fun x => [Value.int .u8 x])) (hi : i < l.length) :
    ∃ b off, a = some ⟨b, off, none⟩ ∧ Ats w0 F b (off + i * 1) [.int .u8 l[i]] := by
  obtain ⟨b, off, ha, _, hat⟩ := h.at (i := i) (row := [.int .u8 l[i]]) (by simp [hi])
  exact ⟨b, off, ha, hat⟩
theorem c94 {w0 w : World} {F : List (Nat × Obj)} (ax : Option Addr) (cx : Nat) (x : List Int) (hxl : x.length ≤ 9223372036854775807) (hxs : Sl w0 F ax 1 (x.map fun n => [Value.int .u8 n])) (hxr : ∀ z ∈ x, 0 ≤ z ∧ z ≤ 255) (n : Nat) (hs : St w0 w F) : Con Try.prog 94 [.slice ax x.length cx, .int .i64 (n : Int)] w fun v w' => v = .int .i64 (turnOf x n) ∧ St w0 w' F := by
  refine con_of_wc (n := 16) Try.func94 rfl rfl (Nat.le_of_ble_eq_true rfl) ?_
  refine w_seq (fun K2 hK1 => ?_)
  refine w_region ?_
  refine w_pure want_none (y_assign (v := _) rfl rfl) rfl ?_
  refine w_nil ?_
  refine q_then (hK1 _ _ ?_)
  refine w_seq (fun K4 hK3 => ?_)
  refine w_seq (fun K6 hK5 => ?_)
  refine w_region ?_
  refine w_pure want_none (y_move (v := .slice _ _ _) rfl rfl) rfl ?_
  refine w_pure want_none (y_lenS Try.underlying54 rfl rfl) rfl ?_
  refine w_pure want_none (y_eql rfl rfl rfl rfl) rfl ?_
  refine w_nil ?_
  refine q_then (hK5 _ _ ?_)
  refine w_cond rfl rfl (fun h7 => ?_) (fun h7 => ?_)
  ·
   try simp only [Bool.not_eq_true', Bool.not_eq_false', decide_eq_true_eq, decide_eq_false_iff_not, Int.not_lt, Int.not_le] at h7
   refine w_seq (fun K9 hK8 => ?_)
   refine w_region ?_
   refine w_pure want_none (y_assign (v := _) rfl rfl) rfl ?_
   refine w_nil ?_
   refine q_then (hK8 _ _ ?_)
   refine w_ret ?_
   refine q_then_ret ?_
   refine q_ret (l := [.tmp 4]) (vs := [_]) rfl ⟨⟨rfl, show _ = (.int _ _ : Value) from rfl⟩, trivial⟩ ?_
   first
     | exact ⟨congrArg (Value.int .i64) (by unfold turnOf; rw [if_pos (by omega)]), hs⟩
     | exact ⟨congrArg (Value.int .i64) (turn_at hx0), hs⟩
  ·
   try simp only [Bool.not_eq_true', Bool.not_eq_false', decide_eq_true_eq, decide_eq_false_iff_not, Int.not_lt, Int.not_le] at h7
   refine w_skip ?_
   refine q_then (hK3 _ _ ?_)
   refine w_seq (fun K11 hK10 => ?_)
   have hx0 : 0 < x.length := by omega
   have hm := Nat.mod_lt n hx0
   obtain ⟨bx, ox, rfl, hx⟩ := sl_u8 hxs hm
   have hr := hxr _ (List.getElem_mem hm)
   refine w_region ?_
   refine w_pure want_none (y_move (v := .slice _ _ _) rfl rfl) rfl ?_
   refine w_pure want_none (y_move (v := .int _ _) rfl rfl) rfl ?_
   refine w_pure want_none (y_move (v := .slice _ _ _) rfl rfl) rfl ?_
   refine w_pure want_none (y_lenS Try.underlying54 rfl rfl) rfl ?_
   refine w_pure want_none (y_rem rfl rfl rfl rfl (by omega) (by omega)) rfl ?_
   refine w_pure want_none (y_indexS Try.underlying54 Try.sizeOf5 rfl rfl rfl rfl (i := n % x.length) (by simp) hm) rfl ?_
   refine w_pure want_none (y_load1 Try.isAgg5 hs rfl rfl hx) rfl ?_
   refine w_pure want_none (y_u8int (by rw [Try.underlying5]; rfl) Try.underlying3 rfl rfl (by omega) (by omega)) rfl ?_
   refine w_pure want_none (y_assign (v := .int _ _) rfl rfl) rfl ?_
   refine w_nil ?_
   refine q_then (hK10 _ _ ?_)
   refine w_ret ?_
   refine q_ret (l := [.tmp 4]) (vs := [_]) rfl ⟨⟨rfl, show _ = (.int _ _ : Value) from rfl⟩, trivial⟩ ?_
   first
     | exact ⟨congrArg (Value.int .i64) (by unfold turnOf; rw [if_pos (by omega)]), hs⟩
     | exact ⟨congrArg (Value.int .i64) (turn_at hx0), hs⟩

theorem c47 {w0 w : World} {F : List (Nat × Obj)} (b n : Nat) (hb : b ≤ 9223372036854775807) (hn : n ≤ 9223372036854775807) (hs : St w0 w F) : Con Try.prog 47 [.int .i64 (b : Int), .int .i64 (n : Int)] w fun v w' => v = .bool (decide ((((b >>> n : Nat) : Int)) % 2 = 1)) ∧ St w0 w' F := by
  refine con_of_wc (n := 16) Try.func47 rfl rfl (Nat.le_of_ble_eq_true rfl) ?_
  refine w_seq (fun K2 hK1 => ?_)
  refine w_region ?_
  refine w_pure want_none (y_assign (v := _) rfl rfl) rfl ?_
  refine w_nil ?_
  refine q_then (hK1 _ _ ?_)
  refine w_seq (fun K4 hK3 => ?_)
  refine w_seq (fun K6 hK5 => ?_)
  refine w_region ?_
  refine w_pure want_none (y_assign (v := _) rfl rfl) rfl ?_
  refine w_nil ?_
  refine q_then (hK5 _ _ ?_)
  refine w_block ?_
  refine w_loop [0, 5, 6, 7, 8, 9, 10, 11, 12] [0, 5] (fun k vs w => ∃ i : Nat, vs = [.int .i64 ((b >>> i : Nat) : Int), .int .i64 i] ∧ i ≤ n ∧ k = n - i ∧ St w0 w F) (n) ?_ ?_
  ·
   exact ⟨0, rfl, by omega, by omega, hs⟩
  ·
   intro k vs μ w9 hI K8 hN7
   obtain ⟨i, rfl, hia, rfl, hs⟩ := hI
   have hsl := shr_le b i
   have hsl0 : (0 : Int) ≤ ((b >>> i : Nat) : Int) := Int.natCast_nonneg _
   refine w_seq (fun K11 hK10 => ?_)
   refine w_seq (fun K13 hK12 => ?_)
   refine w_region ?_
   refine w_pure want_none (y_move (v := .int _ _) rfl rfl) rfl ?_
   refine w_pure want_none (y_move (v := .int _ _) rfl rfl) rfl ?_
   refine w_pure want_none (y_lss rfl rfl rfl rfl) rfl ?_
   refine w_nil ?_
   refine q_then (hK12 _ _ ?_)
   refine w_cond rfl rfl (fun h14 => ?_) (fun h14 => ?_)
   ·
    try simp only [Bool.not_eq_true', Bool.not_eq_false', decide_eq_true_eq, decide_eq_false_iff_not, Int.not_lt, Int.not_le] at h14
    refine w_skip ?_
    refine q_then (hK10 _ _ ?_)
    refine w_seq (fun K16 hK15 => ?_)
    refine w_block ?_
    refine w_region ?_
    refine w_pure want_none (y_move (v := .int _ _) rfl rfl) rfl ?_
    refine w_pure want_none (y_quo rfl rfl rfl rfl (by omega) (by omega) (by omega)) rfl ?_
    refine w_pure want_none (y_assign (v := .int _ _) rfl rfl) rfl ?_
    refine w_nil ?_
    refine q_blk_normal ?_
    refine q_then (hK15 _ _ ?_)
    refine w_region ?_
    refine w_pure want_none (y_move (v := .int _ _) rfl rfl) rfl ?_
    refine w_pure want_none (y_add rfl rfl rfl rfl (by omega) (by omega)) rfl ?_
    refine w_pure want_none (y_assign (v := .int _ _) rfl rfl) rfl ?_
    refine w_nil ?_
    refine q_then (hN7 _ _ (Nx.intro (n - (i + 1)) (by omega) (by repeat (first | exact agree_mix | refine agree_upd rfl ?_ | refine agree_updL rfl ?_ _ | refine agree_mixin rfl ?_)) ?_))
    exact ⟨i + 1, by rw [← shr_half]; rfl, by omega, rfl, hs⟩
   ·
    try simp only [Bool.not_eq_true', Bool.not_eq_false', decide_eq_true_eq, decide_eq_false_iff_not, Int.not_lt, Int.not_le] at h14
    refine w_exit ?_
    refine q_then_exit ?_
    refine q_then_exit ?_
    refine q_blk_this ?_
    refine q_then (hK3 _ _ ?_)
    refine w_seq (fun K18 hK17 => ?_)
    refine w_region ?_
    refine w_pure want_none (y_move (v := .int _ _) rfl rfl) rfl ?_
    refine w_pure want_none (y_rem rfl rfl rfl rfl (by omega) (by omega)) rfl ?_
    refine w_pure want_none (y_eql rfl rfl rfl rfl) rfl ?_
    refine w_pure want_none (y_assign (v := .bool _) rfl rfl) rfl ?_
    refine w_nil ?_
    refine q_then (hK17 _ _ ?_)
    refine w_ret ?_
    refine q_ret (l := [.tmp 4]) (vs := [_]) rfl ⟨⟨rfl, show _ = (.bool _ : Value) from rfl⟩, trivial⟩ ?_
    have hin : i = n := by omega
    subst hin
    exact ⟨rfl, hs⟩

theorem c50 {w0 w : World} {F : List (Nat × Obj)} (aa ab : Option Addr) (a b : List Int) (ca cb : Nat) (hla : a.length ≤ 9223372036854775807) (ha : Sl w0 F aa 1 (a.map fun x => [Value.int .i64 x])) (hb : Sl w0 F ab 1 (b.map fun x => [Value.int .i64 x])) (hs : St w0 w F) : Con Try.prog 50 [.slice aa a.length ca, .slice ab b.length cb] w fun v w' => v = .bool (if a.length = b.length then less a b else decide (a.length < b.length)) ∧ St w0 w' F := by
  refine con_of_wc (n := 18) Try.func50 rfl rfl (Nat.le_of_ble_eq_true rfl) ?_
  refine w_seq (fun K2 hK1 => ?_)
  refine w_region ?_
  refine w_pure want_none (y_assign (v := _) rfl rfl) rfl ?_
  refine w_nil ?_
  refine q_then (hK1 _ _ ?_)
  refine w_seq (fun K4 hK3 => ?_)
  refine w_seq (fun K6 hK5 => ?_)
  refine w_region ?_
  refine w_pure want_none (y_move (v := .slice _ _ _) rfl rfl) rfl ?_
  refine w_pure want_none (y_lenS Try.underlying37 rfl rfl) rfl ?_
  refine w_pure want_none (y_move (v := .slice _ _ _) rfl rfl) rfl ?_
  refine w_pure want_none (y_lenS Try.underlying37 rfl rfl) rfl ?_
  refine w_pure want_none (y_neq rfl rfl rfl rfl) rfl ?_
  refine w_nil ?_
  refine q_then (hK5 _ _ ?_)
  refine w_cond rfl rfl (fun h7 => ?_) (fun h7 => ?_)
  ·
   try simp only [Bool.not_eq_true', Bool.not_eq_false', decide_eq_true_eq, decide_eq_false_iff_not, Int.not_lt, Int.not_le] at h7
   refine w_seq (fun K9 hK8 => ?_)
   refine w_region ?_
   refine w_pure want_none (y_move (v := .slice _ _ _) rfl rfl) rfl ?_
   refine w_pure want_none (y_lenS Try.underlying37 rfl rfl) rfl ?_
   refine w_pure want_none (y_move (v := .slice _ _ _) rfl rfl) rfl ?_
   refine w_pure want_none (y_lenS Try.underlying37 rfl rfl) rfl ?_
   refine w_pure want_none (y_lss rfl rfl rfl rfl) rfl ?_
   refine w_pure want_none (y_assign (v := .bool _) rfl rfl) rfl ?_
   refine w_nil ?_
   refine q_then (hK8 _ _ ?_)
   refine w_ret ?_
   refine q_then_ret ?_
   refine q_ret (l := [.tmp 4]) (vs := [_]) rfl ⟨⟨rfl, show _ = (.bool _ : Value) from rfl⟩, trivial⟩ ?_
   first
     | exact ⟨congrArg Value.bool (by rw [if_neg (by omega)]; rw [Bool.eq_iff_iff]; simp), hs⟩
     | exact ⟨congrArg Value.bool (by rw [if_pos (by omega)]), hs⟩
  ·
   try simp only [Bool.not_eq_true', Bool.not_eq_false', decide_eq_true_eq, decide_eq_false_iff_not, Int.not_lt, Int.not_le] at h7
   refine w_skip ?_
   refine q_then (hK3 _ _ ?_)
   refine w_seq (fun K11 hK10 => ?_)
   refine w_region ?_
   refine w_pure want_none (y_move (v := .slice _ _ _) rfl rfl) rfl ?_
   refine w_pure want_none (y_move (v := .slice _ _ _) rfl rfl) rfl ?_
   refine w_call want_none Try.call77 rfl rfl rfl rfl (c77 _ _ _ _ _ _ (by omega) (by assumption) (by assumption) hs) ?_
   rintro _ w13 ⟨rfl, hs14⟩
   refine w_pure want_none (y_assign (v := .bool _) rfl rfl) rfl ?_
   refine w_nil ?_
   refine q_then (hK10 _ _ ?_)
   refine w_ret ?_
   refine q_ret (l := [.tmp 4]) (vs := [_]) rfl ⟨⟨rfl, show _ = (.bool _ : Value) from rfl⟩, trivial⟩ ?_
   first
     | exact ⟨congrArg Value.bool (by rw [if_neg (by omega)]; rw [Bool.eq_iff_iff]; simp), hs14⟩
     | exact ⟨congrArg Value.bool (by rw [if_pos (by omega)]), hs14⟩

theorem bit_con {w0 w : World} {F : List (Nat × Obj)} (z : Int) (n : Nat) (hz : 0 ≤ z) (hz2 : z ≤ 9223372036854775807) (hn : n ≤ 9223372036854775807) (hs : St w0 w F) : Con Try.prog 47 [.int .i64 z, .int .i64 (n : Int)] w fun v w' => v = .bool (decide (bit z.toNat n = 1)) ∧ St w0 w' F := by
  have h := c47 z.toNat n (by omega) hn hs
  rw [Int.toNat_of_nonneg hz, bit_dec] at h
  exact h
theorem c43 {w0 w : World} {F : List (Nat × Obj)} (al : Option Addr) (cl : Nat) (l : List Int) (hll : l.length ≤ 9223372036854775807) (hl : Sl w0 F al 1 (l.map fun x => [Value.int .i64 x])) (z : Int) (hs : St w0 w F) :
  Con Try.prog 43 [.slice al l.length cl, .int .i64 z] w fun v w' => v = .bool (hasI l z) ∧ St w0 w' F := by
  refine con_of_wc (n := 23) Try.func43 rfl rfl (Nat.le_of_ble_eq_true rfl) ?_
  refine w_seq (fun K2 hK1 => ?_)
  refine w_region ?_
  refine w_pure want_none (y_assign (v := _) rfl rfl) rfl ?_
  refine w_nil ?_
  refine q_then (hK1 _ _ ?_)
  refine w_seq (fun K4 hK3 => ?_)
  refine w_region ?_
  refine w_pure want_none (y_assign (v := _) rfl rfl) rfl ?_
  refine w_nil ?_
  refine q_then (hK3 _ _ ?_)
  refine w_seq (fun K6 hK5 => ?_)
  refine w_seq (fun K8 hK7 => ?_)
  refine w_region ?_
  refine w_pure want_none (y_assign (v := _) rfl rfl) rfl ?_
  refine w_nil ?_
  refine q_then (hK7 _ _ ?_)
  refine w_block ?_
  refine w_loop [5, 6, 7, 8, 9, 10, 11, 12, 13, 14, 15, 16, 17, 18, 19, 20, 21] [5, 6] (fun k vs w => ∃ i : Nat, vs = [.bool (hasI (l.take i) z), .int .i64 i] ∧ i ≤ l.length ∧ k = l.length - i ∧ St w0 w F) (l.length) ?_ ?_
  ·
   exact ⟨0, rfl, by omega, by omega, hs⟩
  ·
   intro k vs μ w11 hI K10 hN9
   obtain ⟨i, rfl, hia, rfl, hs⟩ := hI
   generalize hb : hasI (l.take i) z = b
   refine w_seq (fun K13 hK12 => ?_)
   refine w_seq (fun K15 hK14 => ?_)
   refine w_region ?_
   refine w_pure want_none (y_move (v := .int _ _) rfl rfl) rfl ?_
   refine w_pure want_none (y_move (v := .slice _ _ _) rfl rfl) rfl ?_
   refine w_pure want_none (y_lenS Try.underlying37 rfl rfl) rfl ?_
   refine w_pure want_none (y_lss rfl rfl rfl rfl) rfl ?_
   refine w_nil ?_
   refine q_then (hK14 _ _ ?_)
   refine w_cond rfl rfl (fun h16 => ?_) (fun h16 => ?_)
   ·
    try simp only [Bool.not_eq_true', Bool.not_eq_false', decide_eq_true_eq, decide_eq_false_iff_not, Int.not_lt, Int.not_le] at h16
    refine w_skip ?_
    refine q_then (hK12 _ _ ?_)
    refine w_seq (fun K18 hK17 => ?_)
    refine w_block ?_
    have hi2 : i < l.length := by omega
    obtain ⟨bx, ox, hbx, hx⟩ := sl_ints hl hi2
    subst hbx
    refine w_region ?_
    refine w_pure want_none (y_move (v := .bool _) rfl rfl) rfl ?_
    refine w_pure want_none (y_move (v := .bool _) rfl rfl) rfl ?_
    refine w_split (fun h19 => ?_) (fun h19 => ?_)
    ·
     subst h19
     refine w_skipop rfl rfl rfl ?_
     refine w_skipop rfl rfl rfl ?_
     refine w_skipop rfl rfl rfl ?_
     refine w_skipop rfl rfl rfl ?_
     refine w_skipop rfl rfl rfl ?_
     refine w_skipop rfl rfl rfl ?_
     refine w_pure want_none (y_pickT (v := _) rfl rfl rfl rfl) rfl ?_
     refine w_pure want_none (y_assign (v := .bool _) rfl rfl) rfl ?_
     refine w_nil ?_
     refine q_blk_normal ?_
     refine q_then (hK17 _ _ ?_)
     refine w_region ?_
     refine w_pure want_none (y_move (v := .int _ _) rfl rfl) rfl ?_
     refine w_pure want_none (y_add rfl rfl rfl rfl (by omega) (by omega)) rfl ?_
     refine w_pure want_none (y_assign (v := .int _ _) rfl rfl) rfl ?_
     refine w_nil ?_
     refine q_then (hN9 _ _ (Nx.intro (l.length - (i + 1)) (by omega) (by repeat (first | exact agree_mix | refine agree_upd rfl ?_ | refine agree_updL rfl ?_ _ | refine agree_mixin rfl ?_)) ?_))
     first
       | exact ⟨i + 1, bi2 (by rw [hasI_succ hi2, hb]; simp) rfl, by omega, rfl, hs⟩
       | exact ⟨i + 1, bi2 (by rw [hasI_succ hi2, hb]; rfl) rfl, by omega, rfl, hs⟩
    ·
     subst h19
     refine w_pure (want_yes rfl rfl rfl) (y_move (v := .slice _ _ _) rfl rfl) rfl ?_
     refine w_pure (want_yes rfl rfl rfl) (y_move (v := .int _ _) rfl rfl) rfl ?_
     refine w_pure (want_yes rfl rfl rfl) (y_indexS Try.underlying37 Try.sizeOf3 rfl rfl rfl rfl (i := _) rfl (by omega)) rfl ?_
     refine w_pure (want_yes rfl rfl rfl) (y_load1 Try.isAgg3 hs rfl rfl hx) rfl ?_
     refine w_pure (want_yes rfl rfl rfl) (y_move (v := .int _ _) rfl rfl) rfl ?_
     refine w_pure (want_yes rfl rfl rfl) (y_eql rfl rfl rfl rfl) rfl ?_
     refine w_pure want_none (y_pickF (v := .bool _) rfl rfl rfl rfl) rfl ?_
     refine w_pure want_none (y_assign (v := .bool _) rfl rfl) rfl ?_
     refine w_nil ?_
     refine q_blk_normal ?_
     refine q_then (hK17 _ _ ?_)
     refine w_region ?_
     refine w_pure want_none (y_move (v := .int _ _) rfl rfl) rfl ?_
     refine w_pure want_none (y_add rfl rfl rfl rfl (by omega) (by omega)) rfl ?_
     refine w_pure want_none (y_assign (v := .int _ _) rfl rfl) rfl ?_
     refine w_nil ?_
     refine q_then (hN9 _ _ (Nx.intro (l.length - (i + 1)) (by omega) (by repeat (first | exact agree_mix | refine agree_upd rfl ?_ | refine agree_updL rfl ?_ _ | refine agree_mixin rfl ?_)) ?_))
     first
       | exact ⟨i + 1, bi2 (by rw [hasI_succ hi2, hb]; simp) rfl, by omega, rfl, hs⟩
       | exact ⟨i + 1, bi2 (by rw [hasI_succ hi2, hb]; rfl) rfl, by omega, rfl, hs⟩
   ·
    try simp only [Bool.not_eq_true', Bool.not_eq_false', decide_eq_true_eq, decide_eq_false_iff_not, Int.not_lt, Int.not_le] at h16
    refine w_exit ?_
    refine q_then_exit ?_
    refine q_then_exit ?_
    refine q_blk_this ?_
    refine q_then (hK5 _ _ ?_)
    refine w_seq (fun K21 hK20 => ?_)
    refine w_region ?_
    refine w_pure want_none (y_move (v := .bool _) rfl rfl) rfl ?_
    refine w_pure want_none (y_assign (v := .bool _) rfl rfl) rfl ?_
    refine w_nil ?_
    refine q_then (hK20 _ _ ?_)
    refine w_ret ?_
    refine q_ret (l := [.tmp 4]) (vs := [_]) rfl ⟨⟨rfl, show _ = (.bool _ : Value) from rfl⟩, trivial⟩ ?_
    exact ⟨congrArg Value.bool (by have hil : i = l.length := (by omega); subst hil; rw [List.take_length] at hb; exact hb.symm), hs⟩

theorem c93 {w0 w : World} {F : List (Nat × Obj)} (c : Count) (hc : 0 ≤ c.bits ∧ c.bits ≤ 63) (ah : Option Addr) (ch : Nat) (h : List Int) (hh6 : h.length ≤ 6) (hh : ∀ z ∈ h, 0 ≤ z ∧ z ≤ 12) (hsl : Sl w0 F ah 1 (h.map fun x => [Value.int .i64 x])) (hs : St w0 w F) :
  Con Try.prog 93 [.agg c.cells.toArray, .slice ah h.length ch] w fun v w' => v = .int .i64 (counted c.bits.toNat 0 h) ∧ St w0 w' F := by
  refine con_of_wc (n := 24) Try.func93 rfl rfl (Nat.le_of_ble_eq_true rfl) ?_
  refine w_seq (fun K2 hK1 => ?_)
  refine w_region ?_
  refine w_box (v := .agg #[.int _ _, .int _ _]) (cs := [_, _]) want_none rfl rfl rfl hs (fun b3 w4 hs5 => ?_)
  refine w_pure want_none (y_assign (v := _) rfl rfl) rfl ?_
  refine w_nil ?_
  refine q_then (hK1 _ _ ?_)
  refine w_seq (fun K7 hK6 => ?_)
  refine w_region ?_
  refine w_pure want_none (y_assign (v := _) rfl rfl) rfl ?_
  refine w_nil ?_
  refine q_then (hK6 _ _ ?_)
  refine w_seq (fun K9 hK8 => ?_)
  refine w_seq (fun K11 hK10 => ?_)
  refine w_region ?_
  refine w_pure want_none (y_assign (v := _) rfl rfl) rfl ?_
  refine w_nil ?_
  refine q_then (hK10 _ _ ?_)
  refine w_block ?_
  refine w_loop [5, 6, 7, 8, 9, 10, 11, 12, 13, 14, 15, 16, 17, 18, 19, 20, 21, 22] [5, 6] (fun k vs w => ∃ i : Nat, vs = [.int .i64 (counted c.bits.toNat 0 (h.take i)), .int .i64 i] ∧ i ≤ h.length ∧ k = h.length - i ∧ St w0 w ((b3, blk 51 c.cells) :: F)) (h.length) ?_ ?_
  ·
   exact ⟨0, rfl, by omega, by omega, hs5⟩
  ·
   intro k vs μ w14 hI K13 hN12
   obtain ⟨i, rfl, hia, rfl, hs⟩ := hI
   have hcb := counted_bound (bits := c.bits.toNat) hh i hh6
   refine w_seq (fun K16 hK15 => ?_)
   refine w_seq (fun K18 hK17 => ?_)
   refine w_region ?_
   refine w_pure want_none (y_move (v := .int _ _) rfl rfl) rfl ?_
   refine w_pure want_none (y_move (v := .slice _ _ _) rfl rfl) rfl ?_
   refine w_pure want_none (y_lenS Try.underlying37 rfl rfl) rfl ?_
   refine w_pure want_none (y_lss rfl rfl rfl rfl) rfl ?_
   refine w_nil ?_
   refine q_then (hK17 _ _ ?_)
   refine w_cond rfl rfl (fun h19 => ?_) (fun h19 => ?_)
   ·
    try simp only [Bool.not_eq_true', Bool.not_eq_false', decide_eq_true_eq, decide_eq_false_iff_not, Int.not_lt, Int.not_le] at h19
    refine w_skip ?_
    refine q_then (hK15 _ _ ?_)
    refine w_seq (fun K21 hK20 => ?_)
    refine w_block ?_
    refine w_seq (fun K23 hK22 => ?_)
    have hi2 : i < h.length := by omega
    obtain ⟨bx, ox, hbx, hx⟩ := sl_ints hsl hi2
    subst hbx
    have hg := hh _ (List.getElem_mem hi2)
    refine w_region ?_
    refine w_pure want_none (y_fieldAddr (o := 0) (i := 0) Try.underlying51 rfl Try.sizeOf3 rfl rfl rfl) rfl ?_
    refine w_pure want_none (y_load1 Try.isAgg3 hs rfl rfl (ats_own (i := 0) (vs := [_]) rfl rfl)) rfl ?_
    refine w_pure want_none (y_move (v := .int _ _) rfl rfl) rfl ?_
    refine w_call want_none Try.call47 rfl rfl rfl rfl (bit_con c.bits i (by omega) (by omega) (by omega) hs) ?_
    rintro _ w25 ⟨rfl, hs26⟩
    refine w_nil ?_
    refine q_then (hK22 _ _ ?_)
    refine w_cond rfl rfl (fun h27 => ?_) (fun h27 => ?_)
    ·
     try simp only [Bool.not_eq_true', Bool.not_eq_false', decide_eq_true_eq, decide_eq_false_iff_not, Int.not_lt, Int.not_le] at h27
     refine w_region ?_
     refine w_pure want_none (y_move (v := .int _ _) rfl rfl) rfl ?_
     refine w_pure want_none (y_move (v := .slice _ _ _) rfl rfl) rfl ?_
     refine w_pure want_none (y_move (v := .int _ _) rfl rfl) rfl ?_
     refine w_pure want_none (y_indexS Try.underlying37 Try.sizeOf3 rfl rfl rfl rfl (i := _) rfl (by omega)) rfl ?_
     refine w_pure want_none (y_load1 Try.isAgg3 hs26.tail rfl rfl hx) rfl ?_
     refine w_pure want_none (y_add rfl rfl rfl rfl (by omega) (by omega)) rfl ?_
     refine w_pure want_none (y_assign (v := .int _ _) rfl rfl) rfl ?_
     refine w_nil ?_
     refine q_blk_normal ?_
     refine q_then (hK20 _ _ ?_)
     refine w_region ?_
     refine w_pure want_none (y_move (v := .int _ _) rfl rfl) rfl ?_
     refine w_pure want_none (y_add rfl rfl rfl rfl (by omega) (by omega)) rfl ?_
     refine w_pure want_none (y_assign (v := .int _ _) rfl rfl) rfl ?_
     refine w_nil ?_
     refine q_then (hN12 _ _ (Nx.intro (h.length - (i + 1)) (by omega) (by repeat (first | exact agree_mix | refine agree_upd rfl ?_ | refine agree_updL rfl ?_ _ | refine agree_mixin rfl ?_)) ?_))
     first
       | exact ⟨i + 1, iv2 (counted_yes hi2 (by assumption)).symm rfl, by omega, rfl, hs26⟩
       | exact ⟨i + 1, iv2 (counted_no hi2 (by assumption)).symm rfl, by omega, rfl, hs26⟩
    ·
     try simp only [Bool.not_eq_true', Bool.not_eq_false', decide_eq_true_eq, decide_eq_false_iff_not, Int.not_lt, Int.not_le] at h27
     refine w_skip ?_
     refine q_blk_normal ?_
     refine q_then (hK20 _ _ ?_)
     refine w_region ?_
     refine w_pure want_none (y_move (v := .int _ _) rfl rfl) rfl ?_
     refine w_pure want_none (y_add rfl rfl rfl rfl (by omega) (by omega)) rfl ?_
     refine w_pure want_none (y_assign (v := .int _ _) rfl rfl) rfl ?_
     refine w_nil ?_
     refine q_then (hN12 _ _ (Nx.intro (h.length - (i + 1)) (by omega) (by repeat (first | exact agree_mix | refine agree_upd rfl ?_ | refine agree_updL rfl ?_ _ | refine agree_mixin rfl ?_)) ?_))
     first
       | exact ⟨i + 1, iv2 (counted_yes hi2 (by assumption)).symm rfl, by omega, rfl, hs26⟩
       | exact ⟨i + 1, iv2 (counted_no hi2 (by assumption)).symm rfl, by omega, rfl, hs26⟩
   ·
    try simp only [Bool.not_eq_true', Bool.not_eq_false', decide_eq_true_eq, decide_eq_false_iff_not, Int.not_lt, Int.not_le] at h19
    refine w_exit ?_
    refine q_then_exit ?_
    refine q_then_exit ?_
    refine q_blk_this ?_
    refine q_then (hK8 _ _ ?_)
    refine w_seq (fun K29 hK28 => ?_)
    refine w_region ?_
    refine w_pure want_none (y_move (v := .int _ _) rfl rfl) rfl ?_
    refine w_pure want_none (y_assign (v := .int _ _) rfl rfl) rfl ?_
    refine w_nil ?_
    refine q_then (hK28 _ _ ?_)
    refine w_ret ?_
    refine q_ret (l := [.tmp 4]) (vs := [_]) rfl ⟨⟨rfl, show _ = (.int _ _ : Value) from rfl⟩, trivial⟩ ?_
    have hil : i = h.length := by omega
    subst hil
    exact ⟨congrArg (Value.int .i64) (by rw [List.take_length]), hs.tail⟩

theorem c41 {w0 w : World} {F : List (Nat × Obj)} (l : Lot) (p : At3) (hm : LIn w0 F l p) (h s : Int) (hs : St w0 w F) :
  Con Try.prog 41 [.agg (l.cells p).toArray, .int .i64 h, .int .i64 s] w fun v w' => v = .int .i64 (ofG l.grades 0 h s) ∧ St w0 w' F := by
  refine con_of_wc (n := 34) Try.func41 rfl rfl (Nat.le_of_ble_eq_true rfl) ?_
  obtain ⟨ag, cg, ab, cb, ac, cc⟩ := p
  have hlg := hm.lg
  refine w_seq (fun K2 hK1 => ?_)
  refine w_region ?_
  refine w_box (v := .agg #[.slice _ _ _, .slice _ _ _, .slice _ _ _]) (cs := [_, _, _]) want_none rfl rfl rfl hs (fun b3 w4 hs5 => ?_)
  refine w_pure want_none (y_assign (v := _) rfl rfl) rfl ?_
  refine w_nil ?_
  refine q_then (hK1 _ _ ?_)
  refine w_seq (fun K7 hK6 => ?_)
  refine w_seq (fun K9 hK8 => ?_)
  refine w_region ?_
  refine w_pure want_none (y_assign (v := _) rfl rfl) rfl ?_
  refine w_nil ?_
  refine q_then (hK8 _ _ ?_)
  refine w_block ?_
  refine w_loop [6, 7, 8, 9, 10, 11, 12, 13, 14, 15, 16, 17, 18, 19, 20, 21, 22, 23, 24, 25, 26, 27, 28, 29, 30, 31, 32, 33] [7] (fun k vs w => ∃ i : Nat, vs = [.int .i64 i] ∧ i ≤ l.grades.length ∧ k = l.grades.length - i ∧ ofG l.grades 0 h s = ofG (l.grades.drop i) i h s ∧ St w0 w ((b3, blk 26 (l.cells ⟨ag, cg, ab, cb, ac, cc⟩)) :: F)) (l.grades.length) ?_ ?_
  ·
   exact ⟨0, rfl, by omega, by omega, rfl, hs5⟩
  ·
   intro k vs μ w12 hI K11 hN10
   obtain ⟨i, rfl, hia, rfl, hinv, hs⟩ := hI
   refine w_seq (fun K14 hK13 => ?_)
   refine w_seq (fun K16 hK15 => ?_)
   refine w_region ?_
   refine w_pure want_none (y_move (v := .int _ _) rfl rfl) rfl ?_
   refine w_pure want_none (y_fieldAddr (o := 0) (i := 0) Try.underlying26 rfl Try.sizeOf22 rfl rfl rfl) rfl ?_
   refine w_pure want_none (y_load1 Try.isAgg22 hs rfl rfl (ats_own (i := 0) (vs := [_]) rfl rfl)) rfl ?_
   refine w_pure want_none (y_lenS Try.underlying22 rfl rfl) rfl ?_
   refine w_pure want_none (y_lss rfl rfl rfl rfl) rfl ?_
   refine w_nil ?_
   refine q_then (hK15 _ _ ?_)
   refine w_cond rfl rfl (fun h17 => ?_) (fun h17 => ?_)
   ·
    try simp only [Bool.not_eq_true', Bool.not_eq_false', decide_eq_true_eq, decide_eq_false_iff_not, Int.not_lt, Int.not_le] at h17
    refine w_skip ?_
    refine q_then (hK13 _ _ ?_)
    refine w_seq (fun K19 hK18 => ?_)
    refine w_block ?_
    refine w_seq (fun K21 hK20 => ?_)
    have hi2 : i < l.grades.length := by omega
    obtain ⟨bx, ox, hbx, hx⟩ := sl_grows hm.g hi2
    subst hbx
    refine w_region ?_
    refine w_pure want_none (y_move (v := .int _ _) rfl rfl) rfl ?_
    refine w_pure want_none (y_fieldAddr (o := 0) (i := 0) Try.underlying26 rfl Try.sizeOf22 rfl rfl rfl) rfl ?_
    refine w_pure want_none (y_load1 Try.isAgg22 hs rfl rfl (ats_own (i := 0) (vs := [_]) rfl rfl)) rfl ?_
    refine w_pure want_none (y_move (v := .int _ _) rfl rfl) rfl ?_
    refine w_pure want_none (y_indexS Try.underlying22 Try.sizeOf79 rfl rfl rfl rfl (i := _) rfl (by omega)) rfl ?_
    refine w_pure want_none (y_fieldAddr (o := 1) (i := 1) Try.underlying79 rfl Try.sizeOf3 rfl rfl rfl) rfl ?_
    refine w_pure want_none (y_load1 Try.isAgg3 hs.tail rfl rfl (show Ats _ _ _ _ [_] from Ats.part hx 1 1)) rfl ?_
    refine w_pure want_none (y_geq rfl rfl rfl rfl) rfl ?_
    refine w_pure want_none (y_move (v := .bool _) rfl rfl) rfl ?_
    refine w_split (fun h22 => ?_) (fun h22 => ?_)
    ·
     try simp only [Bool.not_eq_true', Bool.not_eq_false', decide_eq_true_eq, decide_eq_false_iff_not, Int.not_lt, Int.not_le] at h22
     refine w_pure (want_yes rfl rfl rfl) (y_move (v := .int _ _) rfl rfl) rfl ?_
     refine w_pure (want_yes rfl rfl rfl) (y_fieldAddr (o := 0) (i := 0) Try.underlying26 rfl Try.sizeOf22 rfl rfl rfl) rfl ?_
     refine w_pure (want_yes rfl rfl rfl) (y_load1 Try.isAgg22 hs rfl rfl (ats_own (i := 0) (vs := [_]) rfl rfl)) rfl ?_
     refine w_pure (want_yes rfl rfl rfl) (y_move (v := .int _ _) rfl rfl) rfl ?_
     refine w_pure (want_yes rfl rfl rfl) (y_indexS Try.underlying22 Try.sizeOf79 rfl rfl rfl rfl (i := _) rfl (by omega)) rfl ?_
     refine w_pure (want_yes rfl rfl rfl) (y_fieldAddr (o := 2) (i := 2) Try.underlying79 rfl Try.sizeOf3 rfl rfl rfl) rfl ?_
     refine w_pure (want_yes rfl rfl rfl) (y_load1 Try.isAgg3 hs.tail rfl rfl (show Ats _ _ _ _ [_] from Ats.part hx 2 1)) rfl ?_
     refine w_pure (want_yes rfl rfl rfl) (y_leq rfl rfl rfl rfl) rfl ?_
     refine w_pure want_none (y_pickT (v := .bool _) rfl rfl rfl rfl) rfl ?_
     refine w_nil ?_
     refine q_then (hK20 _ _ ?_)
     refine w_cond rfl rfl (fun h23 => ?_) (fun h23 => ?_)
     ·
      try simp only [Bool.not_eq_true', Bool.not_eq_false', decide_eq_true_eq, decide_eq_false_iff_not, Int.not_lt, Int.not_le] at h23
      refine w_seq (fun K25 hK24 => ?_)
      refine w_region ?_
      refine w_pure want_none (y_move (v := .int _ _) rfl rfl) rfl ?_
      refine w_pure want_none (y_assign (v := .int _ _) rfl rfl) rfl ?_
      refine w_nil ?_
      refine q_then (hK24 _ _ ?_)
      refine w_ret ?_
      refine q_blk_ret ?_
      refine q_then_ret ?_
      refine q_then_ret ?_
      refine q_blk_ret ?_
      refine q_then_ret ?_
      refine q_ret (l := [.tmp 6]) (vs := [_]) rfl ⟨⟨rfl, show _ = (.int _ _ : Value) from rfl⟩, trivial⟩ ?_
      first
        | exact ⟨congrArg (Value.int .i64) (hinv.trans (of_here hi2 (by omega))).symm, hs.tail⟩
        | exact ⟨congrArg (Value.int .i64) (hinv.trans (of_end (by omega))).symm, hs.tail⟩
     ·
      try simp only [Bool.not_eq_true', Bool.not_eq_false', decide_eq_true_eq, decide_eq_false_iff_not, Int.not_lt, Int.not_le] at h23
      refine w_skip ?_
      refine q_blk_normal ?_
      refine q_then (hK18 _ _ ?_)
      refine w_region ?_
      refine w_pure want_none (y_move (v := .int _ _) rfl rfl) rfl ?_
      refine w_pure want_none (y_add rfl rfl rfl rfl (by omega) (by omega)) rfl ?_
      refine w_pure want_none (y_assign (v := .int _ _) rfl rfl) rfl ?_
      refine w_nil ?_
      refine q_then (hN10 _ _ (Nx.intro (l.grades.length - (i + 1)) (by omega) (by repeat (first | exact agree_mix | refine agree_upd rfl ?_ | refine agree_updL rfl ?_ _ | refine agree_mixin rfl ?_)) ?_))
      exact ⟨i + 1, rfl, by omega, rfl, hinv.trans (of_step hi2 (by omega)), hs⟩
    ·
     try simp only [Bool.not_eq_true', Bool.not_eq_false', decide_eq_true_eq, decide_eq_false_iff_not, Int.not_lt, Int.not_le] at h22
     refine w_skipop rfl rfl rfl ?_
     refine w_skipop rfl rfl rfl ?_
     refine w_skipop rfl rfl rfl ?_
     refine w_skipop rfl rfl rfl ?_
     refine w_skipop rfl rfl rfl ?_
     refine w_skipop rfl rfl rfl ?_
     refine w_skipop rfl rfl rfl ?_
     refine w_skipop rfl rfl rfl ?_
     refine w_pure want_none (y_pickF (v := _) rfl rfl rfl rfl) rfl ?_
     refine w_nil ?_
     refine q_then (hK20 _ _ ?_)
     refine w_condF rfl rfl ?_
     refine w_skip ?_
     refine q_blk_normal ?_
     refine q_then (hK18 _ _ ?_)
     refine w_region ?_
     refine w_pure want_none (y_move (v := .int _ _) rfl rfl) rfl ?_
     refine w_pure want_none (y_add rfl rfl rfl rfl (by omega) (by omega)) rfl ?_
     refine w_pure want_none (y_assign (v := .int _ _) rfl rfl) rfl ?_
     refine w_nil ?_
     refine q_then (hN10 _ _ (Nx.intro (l.grades.length - (i + 1)) (by omega) (by repeat (first | exact agree_mix | refine agree_upd rfl ?_ | refine agree_updL rfl ?_ _ | refine agree_mixin rfl ?_)) ?_))
     exact ⟨i + 1, rfl, by omega, rfl, hinv.trans (of_step hi2 (by omega)), hs⟩
   ·
    try simp only [Bool.not_eq_true', Bool.not_eq_false', decide_eq_true_eq, decide_eq_false_iff_not, Int.not_lt, Int.not_le] at h17
    refine w_exit ?_
    refine q_then_exit ?_
    refine q_then_exit ?_
    refine q_blk_this ?_
    refine q_then (hK6 _ _ ?_)
    refine w_seq (fun K27 hK26 => ?_)
    refine w_region ?_
    refine w_pure want_none (y_assign (v := _) rfl rfl) rfl ?_
    refine w_nil ?_
    refine q_then (hK26 _ _ ?_)
    refine w_ret ?_
    refine q_ret (l := [.tmp 6]) (vs := [_]) rfl ⟨⟨rfl, show _ = (.int _ _ : Value) from rfl⟩, trivial⟩ ?_
    first
      | exact ⟨congrArg (Value.int .i64) (hinv.trans (of_here hi2 (by omega))).symm, hs.tail⟩
      | exact ⟨congrArg (Value.int .i64) (hinv.trans (of_end (by omega))).symm, hs.tail⟩

theorem iv_v {v : Value} {a b : Int} (h : a = b) : [v, Value.int .i64 a] = [v, Value.int .i64 b] := by rw [h]
theorem c80 {w0 w : World} {F : List (Nat × Obj)} (l : Lot) (p : At3) (hm : LIn w0 F l p) (hok : l.Ok) (b : Nat) (hb2 : b < l.bunches.length) (h : Int) (hs : St w0 w F) :
  Con Try.prog 80 [.agg (l.cells p).toArray, .int .i64 (b : Int), .int .i64 h] w fun v w' => ∃ B, Rt.Own v 3 1 (gradesL l.grades h (scarsOf l b)).length (iv (gradesL l.grades h (scarsOf l b))) B ∧ St w0 w' (B ++ F) := by
  refine con_of_wc (n := 38) Try.func80 rfl rfl (Nat.le_of_ble_eq_true rfl) ?_
  obtain ⟨ag, cg, ab, cb, ac, cc⟩ := p
  have hlg := hok.lg
  obtain ⟨bx, ox, hbx, hx⟩ := sl_brows hm.b hb2
  subst hbx
  have hbu := hok.bunch _ (List.getElem_mem hb2)
  refine w_seq (fun K2 hK1 => ?_)
  refine w_region ?_
  refine w_box (v := .agg #[.slice _ _ _, .slice _ _ _, .slice _ _ _]) (cs := [_, _, _]) want_none rfl rfl rfl hs (fun b3 w4 hs5 => ?_)
  refine w_pure want_none (y_assign (v := _) rfl rfl) rfl ?_
  refine w_nil ?_
  refine q_then (hK1 _ _ ?_)
  refine w_seq (fun K7 hK6 => ?_)
  refine w_region ?_
  refine w_pure want_none (y_assign (v := _) rfl rfl) rfl ?_
  refine w_nil ?_
  refine q_then (hK6 _ _ ?_)
  refine w_seq (fun K9 hK8 => ?_)
  refine w_region ?_
  refine w_pure want_none (y_fieldAddr (o := 1) (i := 1) Try.underlying26 rfl Try.sizeOf23 rfl rfl rfl) rfl ?_
  refine w_pure want_none (y_load1 Try.isAgg23 hs5 rfl rfl (ats_own (i := 0) (vs := [_]) rfl rfl)) rfl ?_
  refine w_pure want_none (y_move (v := .int _ _) rfl rfl) rfl ?_
  refine w_pure want_none (y_indexS Try.underlying23 Try.sizeOf81 rfl rfl rfl rfl (i := b) rfl (by omega)) rfl ?_
  refine w_pure want_none (y_fieldAddr (o := 2) (i := 1) Try.underlying81 rfl Try.sizeOf34 rfl rfl rfl) rfl ?_
  refine w_pure want_none (y_loadN (vs := [_, _]) Try.isAgg34 Try.sizeOf34 hs5.tail rfl rfl (show Ats _ _ _ _ [_, _] from Ats.part hx 2 2)) rfl ?_
  refine w_alloc (cs := [_, _]) want_none Try.zeroValue34 rfl hs5 (fun b10 w11 hs12 => ?_)
  refine w_store (i := 0) (v := .agg #[.int _ _, .int _ _]) (vs := [_, _]) want_none Try.sizeOf34 rfl rfl rfl rfl rfl (by simp [Value.oneCell']) hs12 rfl (Nat.le_of_ble_eq_true rfl) (fun w13 hs14 => ?_)
  refine w_nil ?_
  refine q_then (hK8 _ _ ?_)
  refine w_seq (fun K16 hK15 => ?_)
  refine w_seq (fun K18 hK17 => ?_)
  refine w_region ?_
  refine w_pure want_none (y_fieldAddr (o := 0) (i := 0) Try.underlying34 rfl Try.sizeOf3 rfl rfl rfl) rfl ?_
  refine w_pure want_none (y_load1 Try.isAgg3 hs14 rfl rfl (ats_own (i := 0) (vs := [_]) rfl rfl)) rfl ?_
  refine w_pure want_none (y_assign (v := .int _ _) rfl rfl) rfl ?_
  refine w_nil ?_
  refine q_then (hK17 _ _ ?_)
  refine w_block ?_
  refine w_loop [7, 9, 10, 19, 20, 21, 22, 23, 24, 25, 26, 27, 28, 29, 30, 31, 32, 33, 34, 35, 36] [7, 9] (fun k vs w => ∃ (q : Nat) (v : Value) (B : List (Nat × Obj)), vs = [v, .int .i64 ((l.bunches[b]'hb2).slo + q)] ∧ (q : Int) ≤ (l.bunches[b]'hb2).shi + 1 - (l.bunches[b]'hb2).slo ∧ k = ((l.bunches[b]'hb2).shi + 1 - (l.bunches[b]'hb2).slo).toNat - q ∧ Rt.Own v 3 1 (gradesL l.grades h (upto (l.bunches[b]'hb2).slo q)).length (iv (gradesL l.grades h (upto (l.bunches[b]'hb2).slo q))) B ∧ St w0 w ((b10, blk 34 [.int .i64 (l.bunches[b]'hb2).slo, .int .i64 (l.bunches[b]'hb2).shi]) :: (b3, blk 26 (l.cells ⟨ag, cg, some ⟨bx, ox, none⟩, cb, ac, cc⟩)) :: (B ++ F))) (((l.bunches[b]'hb2).shi + 1 - (l.bunches[b]'hb2).slo).toNat) ?_ ?_
  ·
   exact ⟨0, _, [], by rw [show (l.bunches[b]'hb2).slo + ((0 : Nat) : Int) = (l.bunches[b]'hb2).slo by omega]; rfl, by omega, by omega, own_nil 3 1, hs14⟩
  ·
   intro k vs μ w21 hI K20 hN19
   obtain ⟨q, v, B, rfl, hq, rfl, hown, hs⟩ := hI
   have hgl := gradesL_len l.grades h (l.bunches[b]'hb2).slo q
   obtain ⟨aG, cG, rfl, hslG, _, _⟩ := own_ints (w0 := w0) hown
   refine w_seq (fun K23 hK22 => ?_)
   refine w_seq (fun K25 hK24 => ?_)
   refine w_region ?_
   refine w_pure want_none (y_move (v := .int _ _) rfl rfl) rfl ?_
   refine w_pure want_none (y_fieldAddr (o := 1) (i := 1) Try.underlying34 rfl Try.sizeOf3 rfl rfl rfl) rfl ?_
   refine w_pure want_none (y_load1 Try.isAgg3 hs rfl rfl (ats_own (i := 0) (vs := [_]) rfl rfl)) rfl ?_
   refine w_pure want_none (y_leq rfl rfl rfl rfl) rfl ?_
   refine w_nil ?_
   refine q_then (hK24 _ _ ?_)
   refine w_cond rfl rfl (fun h26 => ?_) (fun h26 => ?_)
   ·
    try simp only [Bool.not_eq_true', Bool.not_eq_false', decide_eq_true_eq, decide_eq_false_iff_not, Int.not_lt, Int.not_le] at h26
    refine w_skip ?_
    refine q_then (hK22 _ _ ?_)
    refine w_seq (fun K28 hK27 => ?_)
    refine w_block ?_
    refine w_seq (fun K30 hK29 => ?_)
    refine w_region ?_
    refine w_pure want_none (y_loadN (vs := [_, _, _]) Try.isAgg26 Try.sizeOf26 hs rfl rfl (ats_own (i := 1) (vs := [_, _, _]) rfl rfl)) rfl ?_
    refine w_pure want_none (y_move (v := .int _ _) rfl rfl) rfl ?_
    refine w_pure want_none (y_move (v := .int _ _) rfl rfl) rfl ?_
    refine w_call want_none Try.call41 rfl rfl rfl rfl (c41 l ⟨_, _, _, _, _, _⟩ hm.app.cons.cons h ((l.bunches[b]'hb2).slo + q) hs) ?_
    rintro _ w32 ⟨rfl, hs33⟩
    refine w_pure want_none (y_assign (v := .int _ _) rfl rfl) rfl ?_
    refine w_nil ?_
    refine q_then (hK29 _ _ ?_)
    refine w_seq (fun K35 hK34 => ?_)
    refine w_region ?_
    refine w_pure want_none (y_move (v := .slice _ _ _) rfl rfl) rfl ?_
    refine w_pure want_none (y_move (v := .int _ _) rfl rfl) rfl ?_
    refine w_call want_none Try.call43 rfl rfl rfl rfl (c43 _ _ (gradesL l.grades h (upto (l.bunches[b]'hb2).slo q)) (by omega) hslG.top.cons.cons _ hs33) ?_
    rintro _ w37 ⟨rfl, hs38⟩
    refine w_pure want_none (y_not rfl rfl) rfl ?_
    refine w_nil ?_
    refine q_then (hK34 _ _ ?_)
    refine w_cond rfl rfl (fun h39 => ?_) (fun h39 => ?_)
    ·
     try simp only [Bool.not_eq_true', Bool.not_eq_false', decide_eq_true_eq, decide_eq_false_iff_not, Int.not_lt, Int.not_le] at h39
     refine w_region ?_
     refine w_pure want_none (y_move (v := .slice _ _ _) rfl rfl) rfl ?_
     refine w_pure want_none (y_move (v := .int _ _) rfl rfl) rfl ?_
     refine w_bslice (ps := [(0, _)]) (pv := [(0, .int _ _)]) (cs := [_]) want_none rfl rfl (fun w => Try_U_fb5 _ w) hs38 (fun b40 w41 hs42 => ?_)
     refine w_append (X := (_ :: _ :: _ :: [])) (B := B) (rows := [[_]]) (sz := 1) (bytes := 8) want_none Try.underlying37 Try_info3 rfl rfl rfl rfl rfl rfl rfl rfl rfl hs42 hown (sl_own (i := 0) rfl (by simp) rfl) rfl (by simp) (by simp [Value.oneCell']) (by simp only [maxLen]; omega) (by omega) (fun v43 w44 B45 ho46 hs47 => ?_)
     replace hs47 := (show St _ _ (_ :: _ :: _ :: B45 ++ (F)) from hs47)
     refine w_pure want_none (y_assign (v := v43) rfl rfl) rfl ?_
     refine w_nil ?_
     refine q_blk_normal ?_
     refine q_then (hK27 _ _ ?_)
     refine w_region ?_
     refine w_pure want_none (y_move (v := .int _ _) rfl rfl) rfl ?_
     refine w_pure want_none (y_add rfl rfl rfl rfl (by omega) (by omega)) rfl ?_
     refine w_pure want_none (y_assign (v := .int _ _) rfl rfl) rfl ?_
     refine w_nil ?_
     refine q_then (hN19 _ _ (Nx.intro (((l.bunches[b]'hb2).shi + 1 - (l.bunches[b]'hb2).slo).toNat - (q + 1)) (by omega) (by repeat (first | exact agree_mix | refine agree_upd rfl ?_ | refine agree_updL rfl ?_ _ | refine agree_mixin rfl ?_)) ?_))
     exact ⟨q + 1, _, _, iv_v (by omega), by omega, rfl, by rw [gradesL_no (by assumption)]; exact own_snoc ho46, hs47.tail⟩
    ·
     try simp only [Bool.not_eq_true', Bool.not_eq_false', decide_eq_true_eq, decide_eq_false_iff_not, Int.not_lt, Int.not_le] at h39
     refine w_skip ?_
     refine q_blk_normal ?_
     refine q_then (hK27 _ _ ?_)
     refine w_region ?_
     refine w_pure want_none (y_move (v := .int _ _) rfl rfl) rfl ?_
     refine w_pure want_none (y_add rfl rfl rfl rfl (by omega) (by omega)) rfl ?_
     refine w_pure want_none (y_assign (v := .int _ _) rfl rfl) rfl ?_
     refine w_nil ?_
     refine q_then (hN19 _ _ (Nx.intro (((l.bunches[b]'hb2).shi + 1 - (l.bunches[b]'hb2).slo).toNat - (q + 1)) (by omega) (by repeat (first | exact agree_mix | refine agree_upd rfl ?_ | refine agree_updL rfl ?_ _ | refine agree_mixin rfl ?_)) ?_))
     exact ⟨q + 1, _, B, iv_v (by omega), by omega, rfl, by rw [gradesL_yes (by assumption)]; exact hown, hs38⟩
   ·
    try simp only [Bool.not_eq_true', Bool.not_eq_false', decide_eq_true_eq, decide_eq_false_iff_not, Int.not_lt, Int.not_le] at h26
    refine w_exit ?_
    refine q_then_exit ?_
    refine q_then_exit ?_
    refine q_blk_this ?_
    refine q_then (hK15 _ _ ?_)
    refine w_seq (fun K49 hK48 => ?_)
    refine w_region ?_
    refine w_pure want_none (y_move (v := .slice _ _ _) rfl rfl) rfl ?_
    refine w_pure want_none (y_assign (v := .slice _ _ _) rfl rfl) rfl ?_
    refine w_nil ?_
    refine q_then (hK48 _ _ ?_)
    refine w_ret ?_
    refine q_ret (l := [.tmp 6]) (vs := [_]) rfl ⟨⟨rfl, show _ = (.slice _ _ _ : Value) from rfl⟩, trivial⟩ ?_
    have hqc : q = ((l.bunches[b]'hb2).shi + 1 - (l.bunches[b]'hb2).slo).toNat := by omega
    have hgs : gradesL l.grades h (scarsOf l b) = (gradesL l.grades h (upto (l.bunches[b]'hb2).slo q)) := by unfold scarsOf spanL; rw [bunch_at hb2, hqc]
    rw [hgs]
    exact ⟨B, hown, hs.tail.tail⟩

end Go.Proofs
/- Plain law of the hand layer: a lot that is told by a way denies nothing. No conditions. -/
set_option linter.unusedSimpArgs false
set_option linter.unusedVariables false
namespace Go.Rt.Ha
theorem told_enter {l : Lot} (hc : (check l).2.2 = 0) {h : List Int} (hf : h ∈ felt l.bunches) {e : Int} (he : e = 0) : enterE (told l h) e = 0 := by
  unfold enterE
  rw [if_neg (by rw [told_check hc hf]; simp), if_neg (by simp [he]), if_neg (List.ne_nil_of_mem (told_way hf 0))]
theorem idx_fine {n : Int} {b : Nat} (h : 0 ≤ n ∧ n < b) : idxE n b = 0 := by
  unfold idxE out
  rw [if_neg (by simp only [Bool.or_eq_true, decide_eq_true_eq, not_or]; omega)]
theorem told_wrong {l : Lot} (hc : (check l).2.2 = 0) {h : List Int} (hf : h ∈ felt l.bunches) : wrongP (told l h) = ([], 0) := by
  have hd : (!(ways (told l h) 0).isEmpty) = true := by
    have := List.ne_nil_of_mem (told_way hf 0)
    cases hx : ways (told l h) 0 with
    | nil => exact absurd hx this
    | cons a b => rfl
  unfold wrongP
  rw [if_neg (by rw [told_check hc hf]; simp)]
  have hm := few_min (fun b => !(ways (told l h) b).isEmpty) (told l h).counts.length (1 <<< (told l h).counts.length)
  unfold fewest
  generalize fewTo _ _ _ = s at hm
  obtain ⟨r, f⟩ := s
  have hp : 0 < 1 <<< (told l h).counts.length := by rw [one_shl]; exact Nat.pow_pos (by omega)
  have hz : ∀ n, listL 0 n = [] := by
    intro n
    induction n with
    | zero => rfl
    | succ n ih => rw [listL, ih, if_neg (by simp [bit])]; rfl
  cases f with
  | false => have := (hm.no rfl).2 0 hp; rw [hd] at this; cases this
  | true =>
    obtain ⟨b, _, _, _, h2⟩ := hm.yes rfl
    have := h2 0 hp hd
    rw [hz] at this
    rcases this with h | h
    · simp only at h; rw [← h]
    · simp [before] at h
      cases r with
      | nil => rfl
      | cons a r => simp [less] at h
structure TrueB (l : Lot) (h : List Int) (b : Nat) (s : Int) : Prop where
  hands : (handsP (told l h) b).2 = 0 ∧ (handsP (told l h) b).1.1 ≤ at_ h b ∧ at_ h b ≤ (handsP (told l h) b).1.2
  grade : (gradeP (told l h) b).2 = 0 ∧ hasI (gradeP (told l h) b).1 (ofG l.grades 0 (at_ h b) s) = true
  may : ofG l.grades 0 (at_ h b) s = -1 → hasI (refusedP (told l h)).2.1 b = true
  sure : ofG l.grades 0 (at_ h b) s ≠ -1 → hasI (refusedP (told l h)).1 b = false
theorem gradeTo_mem {l : Lot} {ws : List (List Int)} {b : Nat} {g : Int} : ∀ k : Nat, -1 ≤ g → g + 1 < k → couldR l ws b g = true → g ∈ gradeTo l ws b k
  | 0, h1, h2, _ => by omega
  | k + 1, h1, h2, hc => by
    rw [gradeTo, List.mem_append]
    by_cases e : g = (k : Int) - 1
    · right; subst e; rw [if_pos hc]; simp
    · exact .inl (gradeTo_mem k h1 (by omega) hc)
theorem mayR_mem {l : Lot} {ws : List (List Int)} {b : Nat} : ∀ k : Nat, b < k → couldR l ws b (-1) = true → (b : Int) ∈ mayR l ws k
  | 0, h, _ => by omega
  | k + 1, h, hc => by
    rw [mayR, List.mem_append]
    by_cases e : b = k
    · right; subst e; rw [if_pos hc]; simp
    · exact .inl (mayR_mem k (by omega) hc)
theorem sureR_mem {l : Lot} {ws : List (List Int)} {b : Nat} : ∀ k : Nat, (b : Int) ∈ sureR l ws k → mustR l ws b (-1) = true
  | 0, h => by cases h
  | k + 1, h => by
    rw [sureR, List.mem_append] at h
    rcases h with h | h
    · exact sureR_mem k h
    · split at h
      · rename_i hm
        rw [List.mem_singleton] at h
        have : b = k := by omega
        subst this; exact hm
      · cases h
theorem true_b {l : Lot} (hc : (check l).2.2 = 0) {h : List Int} (hf : h ∈ felt l.bunches) {b : Nat} (hb : b < l.bunches.length) {s : Int} (hs : (bunchOf l b).slo ≤ s ∧ s ≤ (bunchOf l b).shi) : TrueB l h b s := by
  have hok := check_ok hc
  have hct := told_check hc hf
  have hokt := check_ok hct
  have hw := told_way hf 0
  have hne := List.ne_nil_of_mem hw
  have hE := told_enter hc hf (idx_fine (n := b) (b := l.bunches.length) (by omega))
  have hE0 := told_enter hc hf rfl
  have hbt : b < (told l h).bunches.length := hb
  have hcould : couldR (told l h) (ways (told l h) 0) b (ofG l.grades 0 (at_ h b) s) = true := List.any_eq_true.2 ⟨h, hw, hasI_mem.2 (gradesL_mem.2 ⟨s, span_mem.2 hs, rfl⟩)⟩
  refine ⟨?_, ?_, fun e => ?_, fun e => ?_⟩
  · rw [← hands_same]
    unfold handsR
    rw [show (told l h).bunches.length = l.bunches.length from rfl, if_neg (by simp [hE])]
    have := (span_facts (b := b) hne).all h hw
    exact ⟨rfl, this⟩
  · rw [← grade_same]
    unfold gradeR
    rw [show (told l h).bunches.length = l.bunches.length from rfl, if_neg (by simp [hE])]
    refine ⟨rfl, hasI_mem.2 (gradeTo_mem _ (ofG_ge _ _ _) ?_ hcould)⟩
    have := ofG_range (at_ h b) s l.grades 0 (by omega)
    show _ < ((l.grades.length + 1 : Nat) : Int)
    omega
  · rw [← refused_same]
    unfold refusedR
    rw [if_neg (by simp [hE0])]
    rw [e] at hcould
    exact hasI_mem.2 (mayR_mem _ hb hcould)
  · rw [← refused_same]
    unfold refusedR
    rw [if_neg (by simp [hE0])]
    cases hx : hasI (sureR (told l h) (ways (told l h) 0) (told l h).bunches.length) b with
    | false => rfl
    | true =>
      have h1 := sureR_mem _ (hasI_mem.1 hx)
      have h2 := List.all_eq_true.1 h1 h hw
      have h3 := (only_iff (scars_ne hokt hbt)).1 h2 s (span_mem.2 hs)
      exact absurd h3 e
/-- How many hands are of a grade. -/
def ofSum (l : Lot) (h : List Int) (sc : Nat → Int) (g : Int) : Nat → Int
  | 0 => 0
  | k + 1 => ofSum l h sc g k + if ofG l.grades 0 (at_ h k) (sc k) = g then at_ h k else 0
theorem sum_in {l : Lot} {h : List Int} {sc : Nat → Int} (hh : ∀ b, b < l.bunches.length → 0 ≤ at_ h b) (hs : ∀ b, b < l.bunches.length → (bunchOf l b).slo ≤ sc b ∧ sc b ≤ (bunchOf l b).shi) (g : Nat) : ∀ k, k ≤ l.bunches.length → (sumsTo l g h k).1 ≤ ofSum l h sc g k ∧ ofSum l h sc g k ≤ (sumsTo l g h k).2
  | 0, _ => by simp [sumsTo, ofSum]
  | k + 1, hk => by
    have ih := sum_in hh hs g k (by omega)
    have h0 := hh k (by omega)
    have hsk := hs k (by omega)
    have e3 : (2 : Nat) <<< g = 2 ^ (g + 1) := by rw [Nat.shiftLeft_eq, Nat.pow_succ, Nat.mul_comm]
    have hin : sc k ∈ scarsOf l k := span_mem.2 hsk
    have hne : scarsOf l k ≠ [] := List.ne_nil_of_mem hin
    have h1 := orG_one (gs := l.grades) (h := at_ h k) (g := (g : Int)) hne (by omega)
    rw [show ((g : Int) + 1).toNat = g + 1 by omega] at h1
    have h2 := grades_has (gs := l.grades) (h := at_ h k) (g := (g : Int)) (by omega) (scarsOf l k)
    rw [show ((g : Int) + 1).toNat = g + 1 by omega] at h2
    simp only [sumsTo, ofSum, e3]
    have ez : gradesB l (bunchOf l k) (at_ h k) = orG l.grades (at_ h k) (scarsOf l k) := rfl
    rw [ez]
    split
    · rename_i hz
      rw [if_pos (h1.1 hz _ hin)]
      simp only; omega
    · split
      · simp only; split <;> omega
      · rename_i hz
        rw [if_neg]
        · omega
        · intro e
          exact hz ((bit_iff _ _).2 (by rw [← h2]; exact hasI_mem.2 (gradesL_mem.2 ⟨sc k, hin, e⟩)))
theorem tot_facts (l : Lot) (g : Nat) : ∀ (ws : List (List Int)) (s : Int × Int), (ws.foldl (fun s h => (min s.1 (sums l g h).1, max s.2 (sums l g h).2)) s).1 ≤ s.1 ∧ s.2 ≤ (ws.foldl (fun s h => (min s.1 (sums l g h).1, max s.2 (sums l g h).2)) s).2 ∧
    ∀ h ∈ ws, (ws.foldl (fun s h => (min s.1 (sums l g h).1, max s.2 (sums l g h).2)) s).1 ≤ (sums l g h).1 ∧ (sums l g h).2 ≤ (ws.foldl (fun s h => (min s.1 (sums l g h).1, max s.2 (sums l g h).2)) s).2
  | [], s => by simp
  | h :: ws, s => by
    have ih := tot_facts l g ws (min s.1 (sums l g h).1, max s.2 (sums l g h).2)
    rw [List.foldl_cons]
    obtain ⟨i1, i2, i3⟩ := ih
    simp only at i1 i2
    refine ⟨by omega, by omega, fun x hx => ?_⟩
    cases hx with
    | head => constructor <;> omega
    | tail _ hx => exact i3 x hx
theorem true_total {l : Lot} (hc : (check l).2.2 = 0) {h : List Int} (hf : h ∈ felt l.bunches) {sc : Nat → Int} (hs : ∀ b, b < l.bunches.length → (bunchOf l b).slo ≤ sc b ∧ sc b ≤ (bunchOf l b).shi) {g : Nat} (hg : g < l.grades.length) :
    (totalP (told l h) g).2 = 0 ∧ (totalP (told l h) g).1.1 ≤ ofSum l h sc g l.bunches.length ∧ ofSum l h sc g l.bunches.length ≤ (totalP (told l h) g).1.2 := by
  have hok := check_ok hc
  have hw := told_way hf 0
  have hE := told_enter hc hf (idx_fine (n := g) (b := l.grades.length) (by omega))
  have hokt := check_ok (told_check hc hf)
  unfold totalP
  rw [show (told l h).grades.length = l.grades.length from rfl, if_neg (by simp [hE])]
  have h1 := (tot_facts (told l h) g (ways (told l h) 0) (72, 0)).2.2 h hw
  have h2 := sum_in (l := l) (h := h) (sc := sc) (fun b hb => by have := way_at hokt hw (b := b) hb; omega) hs g _ (Nat.le_refl _)
  have e : ∀ k, sumsTo (told l h) g h k = sumsTo l g h k := by
    intro k
    induction k with
    | zero => rfl
    | succ k ih => simp only [sumsTo, ih]; rfl
  unfold sums at h1
  rw [e] at h1
  refine ⟨rfl, ?_, ?_⟩
  · exact Int.le_trans h1.1 h2.1
  · exact Int.le_trans h2.2 h1.2
def allSum (h : List Int) : Nat → Int
  | 0 => 0
  | k + 1 => allSum h k + at_ h k
def gradeSums (l : Lot) (h : List Int) (sc : Nat → Int) (k : Nat) : Nat → Int
  | 0 => 0
  | n + 1 => gradeSums l h sc k n + ofSum l h sc n k
theorem grade_step (l : Lot) (h : List Int) (sc : Nat → Int) (k : Nat) : ∀ n : Nat, gradeSums l h sc (k + 1) n = gradeSums l h sc k n + if 0 ≤ ofG l.grades 0 (at_ h k) (sc k) ∧ ofG l.grades 0 (at_ h k) (sc k) < n then at_ h k else 0
  | 0 => by rw [if_neg (by omega)]; rfl
  | n + 1 => by
    rw [gradeSums, gradeSums, grade_step l h sc k n, ofSum]
    by_cases e : ofG l.grades 0 (at_ h k) (sc k) = n
    · rw [if_pos e, if_neg (by omega), if_pos (by omega)]; omega
    · rw [if_neg e]
      by_cases e2 : 0 ≤ ofG l.grades 0 (at_ h k) (sc k) ∧ ofG l.grades 0 (at_ h k) (sc k) < n
      · rw [if_pos e2, if_pos (by omega)]; omega
      · rw [if_neg e2, if_neg (by omega)]; omega
theorem sum_all (l : Lot) (h : List Int) (sc : Nat → Int) : ∀ k, allSum h k = ofSum l h sc (-1) k + gradeSums l h sc k l.grades.length
  | 0 => by
    have : ∀ n, gradeSums l h sc 0 n = 0 := by
      intro n
      induction n with
      | zero => rfl
      | succ n ih => rw [gradeSums, ih]; rfl
    rw [this]; rfl
  | k + 1 => by
    rw [allSum, sum_all l h sc k, ofSum, grade_step]
    have := ofG_range (at_ h k) (sc k) l.grades 0 (by omega)
    by_cases e : ofG l.grades 0 (at_ h k) (sc k) = -1
    · rw [if_pos e, if_neg (by omega)]; omega
    · rw [if_neg e, if_pos (by omega)]; omega
end Go.Rt.Ha
/- Plain law of the hand layer: one more count. No conditions. -/
set_option linter.unusedSimpArgs false
set_option linter.unusedVariables false
namespace Go.Rt.Ha
def moreL (l : Lot) (c : Count) : Lot := { l with counts := l.counts ++ [c] }
theorem so_append (but : Nat) (h : List Int) : ∀ (a b : List Count) (i : Nat), soFrom but h i (a ++ b) = (soFrom but h i a && soFrom but h (i + a.length) b)
  | [], b, i => by simp [soFrom]
  | c :: a, b, i => by
    rw [List.cons_append, soFrom, soFrom, so_append but h a b (i + 1), Bool.and_assoc, List.length_cons, show i + 1 + a.length = i + (a.length + 1) by omega]
theorem ways_more {l : Lot} {c : Count} {h : List Int} (hw : h ∈ ways (moreL l c) 0) : h ∈ ways l 0 := by
  obtain ⟨h1, h2⟩ := List.mem_filter.1 hw
  refine List.mem_filter.2 ⟨h1, ?_⟩
  have : soFrom 0 h 0 (l.counts ++ [c]) = true := h2
  rw [so_append, Bool.and_eq_true] at this
  exact this.1
theorem span_sub {b : Nat} {ws wt : List (List Int)} (hs : ∀ h ∈ wt, h ∈ ws) (hw : wt ≠ []) : (spanR b ws).1 ≤ (spanR b wt).1 ∧ (spanR b wt).2 ≤ (spanR b ws).2 := by
  have hne : ws ≠ [] := by
    obtain ⟨x, hx⟩ := List.exists_mem_of_ne_nil _ hw
    exact List.ne_nil_of_mem (hs x hx)
  have h1 := span_facts (b := b) hne
  have h2 := span_facts (b := b) hw
  obtain ⟨x, hx, ex⟩ := h2.lo
  obtain ⟨y, hy, ey⟩ := h2.hi
  have hx1 := (h1.all x (hs x hx)).1
  have hy1 := (h1.all y (hs y hy)).2
  clear h1 h2
  omega
theorem could_sub {l l' : Lot} (hg : l'.grades = l.grades) (hb : l'.bunches = l.bunches) {ws wt : List (List Int)} (hs : ∀ h ∈ wt, h ∈ ws) {b : Nat} {g : Int} (h : couldR l' wt b g = true) : couldR l ws b g = true := by
  unfold couldR at *
  obtain ⟨x, hx, e⟩ := List.any_eq_true.1 h
  refine List.any_eq_true.2 ⟨x, hs x hx, ?_⟩
  unfold scarsOf bunchOf at *
  rw [hg, hb] at e
  exact e
theorem must_sub {l l' : Lot} (hg : l'.grades = l.grades) (hb : l'.bunches = l.bunches) {ws wt : List (List Int)} (hs : ∀ h ∈ wt, h ∈ ws) {b : Nat} {g : Int} (h : mustR l ws b g = true) : mustR l' wt b g = true := by
  unfold mustR at *
  rw [List.all_eq_true] at *
  intro x hx
  have := h x (hs x hx)
  unfold scarsOf bunchOf at *
  rw [hg, hb]
  exact this
theorem gradeTo_iff {l : Lot} {ws : List (List Int)} {b : Nat} {z : Int} : ∀ k : Nat, z ∈ gradeTo l ws b k ↔ (-1 ≤ z ∧ z + 1 < k ∧ couldR l ws b z = true)
  | 0 => by simp [gradeTo]; omega
  | k + 1 => by
    rw [gradeTo, List.mem_append, gradeTo_iff k]
    constructor
    · rintro (h | h)
      · exact ⟨h.1, by omega, h.2.2⟩
      · split at h
        · rename_i hc
          rw [List.mem_singleton] at h
          subst h
          exact ⟨by omega, by omega, hc⟩
        · cases h
    · rintro ⟨h1, h2, h3⟩
      by_cases e : z = (k : Int) - 1
      · right; subst e; rw [if_pos h3]; simp
      · exact .inl ⟨h1, by omega, h3⟩
theorem mayR_iff {l : Lot} {ws : List (List Int)} {z : Int} : ∀ k : Nat, z ∈ mayR l ws k ↔ ∃ b : Nat, z = b ∧ b < k ∧ couldR l ws b (-1) = true
  | 0 => by simp [mayR]
  | k + 1 => by
    rw [mayR, List.mem_append, mayR_iff k]
    constructor
    · rintro (⟨b, h1, h2, h3⟩ | h)
      · exact ⟨b, h1, by omega, h3⟩
      · split at h
        · rename_i hc
          rw [List.mem_singleton] at h
          exact ⟨k, h, by omega, hc⟩
        · cases h
    · rintro ⟨b, h1, h2, h3⟩
      by_cases e : b = k
      · right; subst e; rw [if_pos h3, h1]; simp
      · exact .inl ⟨b, h1, by omega, h3⟩
theorem sureR_iff {l : Lot} {ws : List (List Int)} {z : Int} : ∀ k : Nat, z ∈ sureR l ws k ↔ ∃ b : Nat, z = b ∧ b < k ∧ mustR l ws b (-1) = true
  | 0 => by simp [sureR]
  | k + 1 => by
    rw [sureR, List.mem_append, sureR_iff k]
    constructor
    · rintro (⟨b, h1, h2, h3⟩ | h)
      · exact ⟨b, h1, by omega, h3⟩
      · split at h
        · rename_i hc
          rw [List.mem_singleton] at h
          exact ⟨k, h, by omega, hc⟩
        · cases h
    · rintro ⟨b, h1, h2, h3⟩
      by_cases e : b = k
      · right; subst e; rw [if_pos h3, h1]; simp
      · exact .inl ⟨b, h1, by omega, h3⟩
end Go.Rt.Ha
/- Plain law of the hand layer: with one more count nothing is wider. No conditions. -/
set_option linter.unusedSimpArgs false
set_option linter.unusedVariables false
namespace Go.Rt.Ha
theorem tot_att (l : Lot) (g : Nat) : ∀ (ws : List (List Int)) (s : Int × Int),
    ((ws.foldl (fun s h => (min s.1 (sums l g h).1, max s.2 (sums l g h).2)) s).1 = s.1 ∨ ∃ h ∈ ws, (sums l g h).1 = (ws.foldl (fun s h => (min s.1 (sums l g h).1, max s.2 (sums l g h).2)) s).1) ∧
    ((ws.foldl (fun s h => (min s.1 (sums l g h).1, max s.2 (sums l g h).2)) s).2 = s.2 ∨ ∃ h ∈ ws, (sums l g h).2 = (ws.foldl (fun s h => (min s.1 (sums l g h).1, max s.2 (sums l g h).2)) s).2)
  | [], s => by simp
  | h :: ws, s => by
    have ih := tot_att l g ws (min s.1 (sums l g h).1, max s.2 (sums l g h).2)
    rw [List.foldl_cons]
    obtain ⟨i1, i2⟩ := ih
    simp only at i1 i2
    have a1 : min s.1 (sums l g h).1 = s.1 ∨ min s.1 (sums l g h).1 = (sums l g h).1 := by clear i1 i2; omega
    have a2 : max s.2 (sums l g h).2 = s.2 ∨ max s.2 (sums l g h).2 = (sums l g h).2 := by clear i1 i2; omega
    constructor
    · rcases i1 with h1 | ⟨x, hx, h1⟩
      · rcases a1 with e | e
        · exact .inl (h1.trans e)
        · exact .inr ⟨h, .head _, (h1.trans e).symm⟩
      · exact .inr ⟨x, .tail _ hx, h1⟩
    · rcases i2 with h1 | ⟨x, hx, h1⟩
      · rcases a2 with e | e
        · exact .inl (h1.trans e)
        · exact .inr ⟨h, .head _, (h1.trans e).symm⟩
      · exact .inr ⟨x, .tail _ hx, h1⟩
theorem tot_sub (l : Lot) (g : Nat) {ws wt : List (List Int)} (hs : ∀ h ∈ wt, h ∈ ws) : (totalW l g ws).1 ≤ (totalW l g wt).1 ∧ (totalW l g wt).2 ≤ (totalW l g ws).2 := by
  have h1 := tot_facts l g ws (72, 0)
  have h2 := tot_att l g wt (72, 0)
  unfold totalW
  constructor
  · rcases h2.1 with e | ⟨x, hx, e⟩
    · rw [e]; exact h1.1
    · rw [← e]; exact (h1.2.2 x (hs x hx)).1
  · rcases h2.2 with e | ⟨x, hx, e⟩
    · rw [e]; exact h1.2.1
    · rw [← e]; exact (h1.2.2 x (hs x hx)).2
theorem enter_zero {l : Lot} (hc : (check l).2.2 = 0) (hw : ways l 0 ≠ []) {e : Int} (he : e = 0) : enterE l e = 0 := by
  unfold enterE
  rw [if_neg (by simp [hc]), if_neg (by simp [he]), if_neg hw]
/-- What a lot with fewer ways tells. -/
structure LessB (l l' : Lot) (b : Nat) : Prop where
  e1 : (handsP l b).2 = 0
  e2 : (handsP l' b).2 = 0
  e3 : (gradeP l b).2 = 0
  e4 : (gradeP l' b).2 = 0
  hands : (handsP l b).1.1 ≤ (handsP l' b).1.1 ∧ (handsP l' b).1.2 ≤ (handsP l b).1.2
  grade : ∀ z ∈ (gradeP l' b).1, z ∈ (gradeP l b).1
theorem less_b {l l' : Lot} (hc : (check l).2.2 = 0) (hc' : (check l').2.2 = 0) (hw : ways l 0 ≠ []) (hw' : ways l' 0 ≠ []) (hg : l'.grades = l.grades) (hb : l'.bunches = l.bunches) (hs : ∀ h ∈ ways l' 0, h ∈ ways l 0) {b : Nat} (hbl : b < l.bunches.length) : LessB l l' b := by
  have E := enter_zero hc hw (idx_fine (n := b) (b := l.bunches.length) (by omega))
  have E' := enter_zero hc' hw' (idx_fine (n := b) (b := l.bunches.length) (by omega))
  have h1 : handsP l b = (spanR b (ways l 0), 0) := by rw [← hands_same]; unfold handsR; rw [if_neg (by simp [E])]; rfl
  have h2 : handsP l' b = (spanR b (ways l' 0), 0) := by rw [← hands_same]; unfold handsR; rw [hb, if_neg (by simp [E'])]; rfl
  have h3 : gradeP l b = (gradeTo l (ways l 0) b (l.grades.length + 1), 0) := by rw [← grade_same]; unfold gradeR; rw [if_neg (by simp [E])]; rfl
  have h4 : gradeP l' b = (gradeTo l' (ways l' 0) b (l.grades.length + 1), 0) := by rw [← grade_same]; unfold gradeR; rw [hb, if_neg (by simp [E']), hg]; rfl
  refine ⟨by rw [h1], by rw [h2], by rw [h3], by rw [h4], ?_, fun z hz => ?_⟩
  · rw [h1, h2]; exact span_sub hs hw'
  · rw [h3]; rw [h4] at hz
    have := (gradeTo_iff _).1 hz
    exact (gradeTo_iff _).2 ⟨this.1, this.2.1, could_sub hg hb hs this.2.2⟩
theorem less_total {l l' : Lot} (hc : (check l).2.2 = 0) (hc' : (check l').2.2 = 0) (hw : ways l 0 ≠ []) (hw' : ways l' 0 ≠ []) (hg : l'.grades = l.grades) (hb : l'.bunches = l.bunches) (hs : ∀ h ∈ ways l' 0, h ∈ ways l 0) {g : Nat} (hgl : g < l.grades.length) :
    (totalP l g).2 = 0 ∧ (totalP l' g).2 = 0 ∧ (totalP l g).1.1 ≤ (totalP l' g).1.1 ∧ (totalP l' g).1.2 ≤ (totalP l g).1.2 := by
  have E := enter_zero hc hw (idx_fine (n := g) (b := l.grades.length) (by omega))
  have E' := enter_zero hc' hw' (idx_fine (n := g) (b := l.grades.length) (by omega))
  have h1 : totalP l g = (totalW l g (ways l 0), 0) := by unfold totalP; rw [if_neg (by simp [E])]; rfl
  have h2 : totalP l' g = (totalW l' g (ways l' 0), 0) := by unfold totalP; rw [hg, if_neg (by simp [E'])]; rfl
  have hsum : ∀ h, sums l' g h = sums l g h := by
    intro h
    have : ∀ k, sumsTo l' g h k = sumsTo l g h k := by
      intro k
      induction k with
      | zero => rfl
      | succ k ih =>
        have e : gradesB l' (bunchOf l' k) (at_ h k) = gradesB l (bunchOf l k) (at_ h k) := by unfold gradesB bunchOf; rw [hg, hb]
        simp only [sumsTo, ih, e]
    unfold sums
    rw [hb, this]
  have hsame : totalW l' g (ways l' 0) = totalW l g (ways l' 0) := by unfold totalW; simp only [hsum]
  rw [h1, h2, hsame]
  have := tot_sub l g hs
  exact ⟨rfl, rfl, this.1, this.2⟩
theorem less_refused {l l' : Lot} (hc : (check l).2.2 = 0) (hc' : (check l').2.2 = 0) (hw : ways l 0 ≠ []) (hw' : ways l' 0 ≠ []) (hg : l'.grades = l.grades) (hb : l'.bunches = l.bunches) (hs : ∀ h ∈ ways l' 0, h ∈ ways l 0) :
    (refusedP l).2.2 = 0 ∧ (refusedP l').2.2 = 0 ∧ (∀ z ∈ (refusedP l).1, z ∈ (refusedP l').1) ∧ (∀ z ∈ (refusedP l').2.1, z ∈ (refusedP l).2.1) := by
  have E := enter_zero hc hw rfl
  have E' := enter_zero hc' hw' rfl
  rw [← refused_same, ← refused_same]
  unfold refusedR
  rw [if_neg (by simp [E]), if_neg (by simp [E']), hb]
  refine ⟨rfl, rfl, fun z hz => ?_, fun z hz => ?_⟩
  · obtain ⟨b, h1, h2, h3⟩ := (sureR_iff _).1 hz
    exact (sureR_iff _).2 ⟨b, h1, h2, must_sub hg hb hs h3⟩
  · obtain ⟨b, h1, h2, h3⟩ := (mayR_iff _).1 hz
    exact (mayR_iff _).2 ⟨b, h1, h2, could_sub hg hb hs h3⟩
end Go.Rt.Ha
/- Plain law of the hand layer: the fewest counts that must be wrong. No conditions. -/
set_option linter.unusedSimpArgs false
set_option linter.unusedVariables false
namespace Go.Rt.Ha
def butC (but : List Int) : Nat → List Count → List Count
  | _, [] => []
  | i, c :: l => if hasI but i then butC but (i + 1) l else c :: butC but (i + 1) l
def butL (l : Lot) (but : List Int) : Lot := { l with counts := butC but 0 l.counts }
theorem so_zero (h : List Int) : ∀ (cs : List Count) (i j : Nat), soFrom 0 h i cs = soFrom 0 h j cs
  | [], _, _ => rfl
  | c :: cs, i, j => by
    rw [soFrom, soFrom, so_zero h cs (i + 1) (j + 1)]
    simp [bit]
theorem but_so (but h : List Int) : ∀ (cs : List Count) (i : Nat), soFrom 0 h i (butC but i cs) = soR but h i cs
  | [], _ => rfl
  | c :: cs, i => by
    rw [butC, soR]
    cases hb : hasI but i with
    | true => rw [if_pos rfl, so_zero h _ i (i + 1), but_so but h cs (i + 1)]; simp
    | false =>
      rw [if_neg (by simp), soFrom, but_so but h cs (i + 1)]
      simp [bit]
theorem but_ways (l : Lot) (but : List Int) : ways (butL l but) 0 = waysR l but := by
  unfold ways waysR
  congr 1
  funext h
  exact but_so but h l.counts 0
theorem but_in (but : List Int) : ∀ (cs : List Count) (i : Nat), (butC but i cs).length ≤ cs.length ∧ ∀ c ∈ butC but i cs, c ∈ cs
  | [], _ => by simp [butC]
  | c :: cs, i => by
    have ih := but_in but cs (i + 1)
    rw [butC]
    split
    · exact ⟨by simp only [List.length_cons]; omega, fun x hx => .tail _ (ih.2 x hx)⟩
    · refine ⟨by simp only [List.length_cons]; omega, fun x hx => ?_⟩
      cases hx with
      | head => exact .head _
      | tail _ hx => exact .tail _ (ih.2 x hx)
theorem but_check {l : Lot} (hc : (check l).2.2 = 0) (but : List Int) : (check (butL l but)).2.2 = 0 := by
  obtain ⟨h1, h2, h3⟩ := check_iff.1 hc
  refine check_iff.2 ⟨h1, h2, ?_⟩
  have hok := check_ok hc
  have hin := but_in but l.counts 0
  have hlc := hok.lc
  refine failE_iff.2 ⟨⟨by omega, by show ((butC but 0 l.counts).length : Int) ≤ 4; omega⟩, fun k hk => ?_⟩
  have := hok.count _ (hin.2 _ (List.getElem_mem hk))
  exact countE_iff.2 this
theorem listL_mod (b : Nat) : ∀ (k n : Nat), k ≤ n → listL (b % 2 ^ n) k = listL b k
  | 0, _, _ => rfl
  | k + 1, n, h => by
    have hb : bit (b % 2 ^ n) k = 1 ↔ bit b k = 1 := by
      rw [bit_iff, bit_iff, Nat.testBit_mod_two_pow]
      simp; omega
    rw [listL, listL, listL_mod b k n (by omega)]
    congr 1
    by_cases e : bit b k = 1
    · rw [if_pos e, if_pos (hb.2 e)]
    · rw [if_neg e, if_neg fun h => e (hb.1 h)]
structure FewF (l : Lot) (x : Nat) : Prop where
  e : (wrongP l).2 = 0
  is : ∃ b, b < 2 ^ l.counts.length ∧ (wrongP l).1 = listL b l.counts.length
  f : (refusedP (butL l (wrongP l).1)).2.2 = 0
  g : (refusedP (butL l (listL x l.counts.length))).2.2 = 8 ∨ ((refusedP (butL l (listL x l.counts.length))).2.2 = 0 ∧ before (listL x l.counts.length) (wrongP l).1 = false)
theorem refused_e {l : Lot} (hc : (check l).2.2 = 0) : (refusedP l).2.2 = if ways l 0 = [] then 8 else 0 := by
  unfold refusedP enterE
  by_cases h : ways l 0 = []
  · simp [hc, h]
  · simp [hc, h]
theorem few_law {l : Lot} (hc : (check l).2.2 = 0) (x : Nat) : FewF l x := by
  have hok := check_ok hc
  have hlc := hok.lc
  have e2 : 1 <<< l.counts.length = 2 ^ l.counts.length := one_shl _
  have hm := few_min (fun b => !(ways l b).isEmpty) l.counts.length (1 <<< l.counts.length)
  have hw : wrongP l = ((fewTo (fun b => !(ways l b).isEmpty) l.counts.length (1 <<< l.counts.length)).1, 0) := by unfold wrongP fewest; rw [if_neg (by simp [hc])]
  rw [e2] at hm hw
  have hpos : 0 < 2 ^ l.counts.length := Nat.pow_pos (by omega)
  have hfull : (!(ways l (2 ^ l.counts.length - 1)).isEmpty) = true := by
    have : ways l (2 ^ l.counts.length - 1) = felt l.bunches := List.filter_eq_self.2 fun h _ => so_all h l.counts.length l.counts 0 (by omega) (by omega)
    rw [this]
    have := felt_ne (bs := l.bunches) fun b hb => (hok.bunch b hb).2.1
    cases hx : felt l.bunches with
    | nil => exact absurd hx this
    | cons a b => rfl
  generalize fewTo (fun b => !(ways l b).isEmpty) l.counts.length (2 ^ l.counts.length) = s at hm hw
  obtain ⟨r, f⟩ := s
  cases f with
  | false => have := (hm.no rfl).2 _ (show 2 ^ l.counts.length - 1 < 2 ^ l.counts.length by omega); rw [hfull] at this; cases this
  | true =>
    obtain ⟨b, hb, hd, h1, h2⟩ := hm.yes rfl
    simp only at h1 h2
    subst h1
    have hne : ∀ c, (!(ways l c).isEmpty) = true ↔ ways l c ≠ [] := by intro c; simp
    refine ⟨by rw [hw], ⟨b, hb, by rw [hw]⟩, ?_, ?_⟩
    · rw [hw, refused_e (but_check hc _), but_ways, ways_same, if_neg ((hne b).1 hd)]
    · rw [refused_e (but_check hc _), but_ways]
      have hx : x % 2 ^ l.counts.length < 2 ^ l.counts.length := Nat.mod_lt _ hpos
      have hl := listL_mod x l.counts.length l.counts.length (Nat.le_refl _)
      rw [← hl, ways_same]
      by_cases he : ways l (x % 2 ^ l.counts.length) = []
      · left; rw [if_pos he]
      · right
        refine ⟨by rw [if_neg he], ?_⟩
        rw [hw]
        rcases h2 _ hx ((hne _).2 he) with h | h
        · rw [h]; exact Ls.before_irrefl _
        · exact Ls.before_asymm h
end Go.Rt.Ha
/- Plain help of the hand layer's laws: rising lists, fewer, counts left out. No conditions. -/
set_option linter.unusedSimpArgs false
set_option linter.unusedVariables false
namespace Go.Rt.Ha
def rising (n : Int) : Int → List Int → Bool
  | _, [] => true
  | p, x :: l => !(decide (x ≤ p) || decide (n ≤ x)) && rising n x l
theorem rising_stop {n p : Int} {l : List Int} {i : Nat} (hi : i < l.length) (h : l[i] ≤ p ∨ n ≤ l[i]) : rising n p (l.drop i) = false := by
  rw [List.drop_eq_getElem_cons hi]
  simp only [rising, Bool.and_eq_false_iff, Bool.not_eq_false', Bool.or_eq_true, decide_eq_true_eq]
  exact .inl h
theorem rising_step {n p : Int} {l : List Int} {i : Nat} (hi : i < l.length) (h : p < l[i]) (h2 : l[i] < n) : rising n p (l.drop i) = rising n l[i] (l.drop (i + 1)) := by
  rw [List.drop_eq_getElem_cons hi]
  simp only [rising]
  rw [decide_eq_false (by omega), decide_eq_false (by omega)]; rfl
theorem rising_end {n p : Int} {l : List Int} {i : Nat} (hi : l.length ≤ i) : rising n p (l.drop i) = true := by rw [List.drop_of_length_le hi]; rfl
theorem rising_snoc {n x : Int} : ∀ (l : List Int) (p : Int), (∀ y ∈ l, y < x) → p < x → x < n → rising n p l = true → rising n p (l ++ [x]) = true
  | [], p, _, h1, h2, _ => by
    simp only [List.nil_append, rising, Bool.and_true, Bool.not_eq_true', Bool.or_eq_false_iff, decide_eq_false_iff_not]; omega
  | y :: l, p, h, h1, h2, h3 => by
    simp only [List.cons_append, rising, Bool.and_eq_true] at h3 ⊢
    exact ⟨h3.1, rising_snoc l y (fun z hz => h z (.tail _ hz)) (h y (.head _)) h2 h3.2⟩
theorem listL_lt (b : Nat) : ∀ n, ∀ y ∈ listL b n, 0 ≤ y ∧ y < (n : Int)
  | 0, y, h => by simp [listL] at h
  | n + 1, y, h => by
    rw [listL, List.mem_append] at h
    rcases h with h | h
    · have := listL_lt b n y h; omega
    · split at h
      · simp at h; omega
      · simp at h
theorem list_rising {m : Int} (b : Nat) : ∀ n : Nat, (n : Int) ≤ m → rising m (-1) (listL b n) = true
  | 0, _ => rfl
  | n + 1, h => by
    rw [listL]
    split
    · exact rising_snoc _ _ (fun y hy => (listL_lt b n y hy).2) (by omega) (by omega) (list_rising b n (by omega))
    · rw [List.append_nil]; exact list_rising b n (by omega)
theorem before_fewer (a b : List Int) : (if a.length = b.length then less a b else decide (a.length < b.length)) = before a b := by
  unfold before
  by_cases h : a.length = b.length
  · rw [if_pos h]; simp [h]
  · rw [if_neg h]; simp [h]
theorem listL_y {b k : Nat} (h : bit b k = 1) : listL b (k + 1) = listL b k ++ [(k : Int)] := by simp [listL, h]
theorem listL_n {b k : Nat} (h : ¬ bit b k = 1) : listL b (k + 1) = listL b k := by simp [listL, h]
theorem butC_snoc (bt : List Int) (c : Count) : ∀ (cs : List Count) (i : Nat), butC bt i (cs ++ [c]) = butC bt i cs ++ (if hasI bt ((i + cs.length : Nat) : Int) then [] else [c])
  | [], i => by simp only [List.nil_append, butC, List.length_nil, Nat.add_zero]
  | x :: cs, i => by
    simp only [List.cons_append, butC, butC_snoc bt c cs (i + 1), List.length_cons]
    rw [show i + 1 + cs.length = i + (cs.length + 1) by omega]
    split
    · rfl
    · rfl
theorem butC_yes {bt : List Int} {cs : List Count} {k : Nat} (hk : k < cs.length) (h : hasI bt (k : Int) = true) : butC bt 0 (cs.take (k + 1)) = butC bt 0 (cs.take k) := by
  rw [List.take_succ_eq_append_getElem hk, butC_snoc, Nat.zero_add, List.length_take, Nat.min_eq_left (by omega), if_pos h, List.append_nil]
theorem butC_no {bt : List Int} {cs : List Count} {k : Nat} (hk : k < cs.length) (h : hasI bt (k : Int) = false) : butC bt 0 (cs.take (k + 1)) = butC bt 0 (cs.take k) ++ [cs[k]] := by
  rw [List.take_succ_eq_append_getElem hk, butC_snoc, Nat.zero_add, List.length_take, Nat.min_eq_left (by omega), if_neg (by simp [h])]
theorem butC_len (bt : List Int) (cs : List Count) (k : Nat) : (butC bt 0 (cs.take k)).length ≤ k := by
  have := (but_in bt (cs.take k) 0).1
  rw [List.length_take] at this; omega
theorem subset_step {a b : List Int} {i : Nat} (hi : i < a.length) (h : hasI b a[i] = true) : (a.drop i).all (hasI b) = (a.drop (i + 1)).all (hasI b) := by
  rw [List.drop_eq_getElem_cons hi, List.all_cons, h, Bool.true_and]
theorem subset_stop {a b : List Int} {i : Nat} (hi : i < a.length) (h : hasI b a[i] = false) : (a.drop i).all (hasI b) = false := by
  rw [List.drop_eq_getElem_cons hi, List.all_cons, h, Bool.false_and]
theorem subset_end {a b : List Int} {i : Nat} (hi : a.length ≤ i) : (a.drop i).all (hasI b) = true := by rw [List.drop_of_length_le hi]; rfl
end Go.Rt.Ha
/- Walks of this seat, printed by gen.py over the engine: what each function returns, in whatever world. No conditions but those of each contract. -/
set_option linter.unusedVariables false
set_option linter.unusedSimpArgs false
set_option maxRecDepth 20000
namespace Go.Proofs
open Go.Rt Go.Rt.Ha
attribute [local irreducible] WL WC Con Yd At Ats Sl Agree DW
theorem Try_La_fb6 (x0 : Int) (x1 : Int) (w : World) : (Instr.buildSlice 24 1 [(0, .agg #[.int .i64 x0, .int .i64 x1])].toArray).run Try.prog w = .ok (.slice (some ⟨w.heap.size, 0, none⟩) 1 1) (w.alloc (Go.Rt.blk 51 [.int .i64 x0, .int .i64 x1])) := by kernel_rfl
theorem own_rows0 {w0 : World} {v : Value} {t : TypeId} {sz n : Nat} {xs : List Value} {B : List (Nat × Obj)} {rows : List (List Value)} (h : Rt.Own v t sz n xs B) (hr : ∀ row ∈ rows, row.length = sz) (hn : rows.length = n) (hx : xs = rows.flatten) : ∃ a c, v = .slice a n c ∧ Sl w0 B a sz rows ∧ n ≤ c ∧ (a = none → c = 0) := by
  subst hx
  rcases h.2 with ⟨h2, h0, rfl⟩ | ⟨b, cap, cs, h2, rfl, h4, _, _, h5⟩
  · have : rows = [] := List.length_eq_zero_iff.1 (by omega)
    subst this
    exact ⟨none, 0, by rw [h2, ← hn]; rfl, Sl.nil _ _, by omega, fun _ => rfl⟩
  · exact ⟨some ⟨b, 0, none⟩, cap, h2, sl_own (i := 0) rfl hr (by rw [hn]; exact h5), by omega, fun h => by cases h⟩
theorem own_some {t : TypeId} {sz n : Nat} {v : Value} {xs : List Value} {B : List (Nat × Obj)} (h : Rt.Own v t sz n xs B) (hn : 0 < n) : ∃ b cap cs, v = .slice (some ⟨b, 0, none⟩) n cap ∧ B = [(b, blk t cs)] ∧ n ≤ cap ∧ cap ≤ maxLen ∧ cs.length = cap * sz ∧ cs.take (n * sz) = xs := by
  rcases h.2 with ⟨_, h0, _⟩ | ⟨b, cap, cs, h1, h2, h3, h4, h5, h6⟩
  · omega
  · exact ⟨b, cap, cs, h1, h2, h3, h4, h5, h6⟩
theorem grade_sh (l : Lot) (b : Int) : (gradeP l b).1.length ≤ 5 := by
  unfold gradeP
  split
  · simp
  · rename_i h
    have hok := check_ok (enterE_zero (Decidable.not_not.1 h)).1
    have h1 := hok.lg
    have h2 := listL_le (setW l b.toNat (Ha.ways l 0)) (l.grades.length + 1)
    rw [List.length_map]; omega
theorem ref_sh (l : Lot) : (refusedP l).1.length ≤ 6 ∧ (refusedP l).2.1.length ≤ 6 := by
  unfold refusedP
  split
  · simp
  · rename_i h
    have hok := check_ok (enterE_zero (Decidable.not_not.1 h)).1
    have h1 := hok.lb
    have h2 := sure_len l (Ha.ways l 0) l.bunches.length
    have h3 := may_len l (Ha.ways l 0) l.bunches.length
    exact ⟨by dsimp only; omega, by dsimp only; omega⟩
theorem own_rows1 {w0 : World} {a : Option Addr} {t : TypeId} {sz n c : Nat} {rows : List (List Value)} {B : List (Nat × Obj)} (h : Rt.Own (.slice a n c) t sz n rows.flatten B) (hr : ∀ row ∈ rows, row.length = sz) (hn : rows.length = n) : Sl w0 B a sz rows ∧ n ≤ c := by
  rcases h.2 with ⟨h2, h0, rfl⟩ | ⟨b, cap, cs, h2, rfl, h4, _, _, h5⟩
  · injection h2 with e1 e2 e3
    have : rows = [] := List.length_eq_zero_iff.1 (by omega)
    subst this
    exact ⟨Sl.nil _ _, by omega⟩
  · injection h2 with e1 e2 e3
    subst e1
    exact ⟨sl_own (i := 0) rfl hr (by rw [hn]; exact h5), by omega⟩
theorem crows_row (m : List Count) : ∀ row ∈ crows m, row.length = 2 := by intro row h; obtain ⟨q, _, rfl⟩ := List.mem_map.1 h; rfl
theorem crows_snoc (m : List Count) (c : Count) : (crows (m ++ [c])).flatten = (crows m).flatten ++ [c.cells].flatten := by simp [crows]
theorem own_crows {v : Value} {m : List Count} {c : Count} {B : List (Nat × Obj)} (h : Rt.Own v 51 2 (m.length + 1) ((crows m).flatten ++ [c.cells].flatten) B) : Rt.Own v 51 2 (m ++ [c]).length (crows (m ++ [c])).flatten B := by
  rw [crows_snoc, List.length_append]; exact h
theorem c38 {w0 w : World} {F : List (Nat × Obj)} (l : Lot) (p : At3) (hm : LIn w0 F l p)  (hs : St w0 w F) :
  Con Try.prog 38 [.agg (l.cells p).toArray] w fun v w' => v = .bool (decide ((check l).2.2 = 0)) ∧ St w0 w' F := by
  refine con_of_wc (n := 14) Try.func38 rfl rfl (Nat.le_of_ble_eq_true rfl) ?_
  refine w_seq (fun K2 hK1 => ?_)
  refine w_region ?_
  refine w_box (v := .agg #[.slice _ _ _, .slice _ _ _, .slice _ _ _]) (cs := [_, _, _]) want_none rfl rfl rfl hs (fun b3 w4 hs5 => ?_)
  refine w_pure want_none (y_assign (v := _) rfl rfl) rfl ?_
  refine w_nil ?_
  refine q_then (hK1 _ _ ?_)
  refine w_seq (fun K7 hK6 => ?_)
  refine w_region ?_
  refine w_pure want_none (y_loadN (vs := [_, _, _]) Try.isAgg26 Try.sizeOf26 hs5 rfl rfl (ats_own (i := 0) (vs := [_, _, _]) rfl rfl)) rfl ?_
  refine w_call want_none Try.call17 rfl rfl rfl rfl (c17 l p hm.cons hs5) ?_
  rintro _ w9 ⟨rfl, hs10⟩
  refine w_pure want_none (y_move (v := .tuple _) rfl rfl) rfl ?_
  refine w_pure want_none (y_extract (v := .int _ _) rfl rfl rfl) rfl ?_
  refine w_pure want_none (y_extract (v := .int _ _) rfl rfl rfl) rfl ?_
  refine w_pure want_none (y_extract (v := .int _ _) rfl rfl rfl) rfl ?_
  refine w_pure want_none (y_assign (v := .int _ _) rfl rfl) rfl ?_
  refine w_pure want_none (y_assign (v := .int _ _) rfl rfl) rfl ?_
  refine w_pure want_none (y_assign (v := .int _ _) rfl rfl) rfl ?_
  refine w_nil ?_
  refine q_then (hK6 _ _ ?_)
  refine w_seq (fun K12 hK11 => ?_)
  refine w_region ?_
  refine w_pure want_none (y_move (v := .int _ _) rfl rfl) rfl ?_
  refine w_pure want_none (y_eql rfl rfl rfl rfl) rfl ?_
  refine w_pure want_none (y_assign (v := .bool _) rfl rfl) rfl ?_
  refine w_nil ?_
  refine q_then (hK11 _ _ ?_)
  refine w_ret ?_
  refine q_ret (l := [.tmp 2]) (vs := [_]) rfl ⟨⟨rfl, show _ = (.bool _ : Value) from rfl⟩, trivial⟩ ?_
  exact ⟨rfl, hs10.tail⟩

theorem c49 {w0 w : World} {F : List (Nat × Obj)} (al : Option Addr) (cl : Nat) (l : List Int) (hll : l.length ≤ 9223372036854775807) (hl : Sl w0 F al 1 (l.map fun x => [Value.int .i64 x])) (n : Int) (hs : St w0 w F) :
  Con Try.prog 49 [.slice al l.length cl, .int .i64 n] w fun v w' => v = .bool (rising n (-1) l) ∧ St w0 w' F := by
  refine con_of_wc (n := 31) Try.func49 rfl rfl (Nat.le_of_ble_eq_true rfl) ?_
  refine w_seq (fun K2 hK1 => ?_)
  refine w_region ?_
  refine w_pure want_none (y_assign (v := _) rfl rfl) rfl ?_
  refine w_nil ?_
  refine q_then (hK1 _ _ ?_)
  refine w_seq (fun K4 hK3 => ?_)
  refine w_region ?_
  refine w_pure want_none (y_assign (v := _) rfl rfl) rfl ?_
  refine w_nil ?_
  refine q_then (hK3 _ _ ?_)
  refine w_seq (fun K6 hK5 => ?_)
  refine w_seq (fun K8 hK7 => ?_)
  refine w_region ?_
  refine w_pure want_none (y_assign (v := _) rfl rfl) rfl ?_
  refine w_nil ?_
  refine q_then (hK7 _ _ ?_)
  refine w_block ?_
  refine w_loop [4, 5, 6, 7, 8, 9, 10, 11, 12, 13, 14, 15, 16, 17, 18, 19, 20, 21, 22, 23, 24, 25, 26, 27, 28, 29, 30] [5, 6] (fun k vs w => ∃ (i : Nat) (p : Int), vs = [.int .i64 p, .int .i64 i] ∧ i ≤ l.length ∧ k = l.length - i ∧ rising n (-1) l = rising n p (l.drop i) ∧ St w0 w F) (l.length) ?_ ?_
  ·
   exact ⟨0, -1, rfl, by omega, by omega, rfl, hs⟩
  ·
   intro k vs μ w11 hI K10 hN9
   obtain ⟨i, p, rfl, hia, rfl, hri, hs⟩ := hI
   refine w_seq (fun K13 hK12 => ?_)
   refine w_seq (fun K15 hK14 => ?_)
   refine w_region ?_
   refine w_pure want_none (y_move (v := .int _ _) rfl rfl) rfl ?_
   refine w_pure want_none (y_move (v := .slice _ _ _) rfl rfl) rfl ?_
   refine w_pure want_none (y_lenS Try.underlying37 rfl rfl) rfl ?_
   refine w_pure want_none (y_lss rfl rfl rfl rfl) rfl ?_
   refine w_nil ?_
   refine q_then (hK14 _ _ ?_)
   refine w_cond rfl rfl (fun h16 => ?_) (fun h16 => ?_)
   ·
    try simp only [Bool.not_eq_true', Bool.not_eq_false', decide_eq_true_eq, decide_eq_false_iff_not, Int.not_lt, Int.not_le] at h16
    refine w_skip ?_
    refine q_then (hK12 _ _ ?_)
    refine w_seq (fun K18 hK17 => ?_)
    refine w_block ?_
    refine w_seq (fun K20 hK19 => ?_)
    refine w_seq (fun K22 hK21 => ?_)
    have hi2 : i < l.length := by omega
    obtain ⟨bx, ox, hbx, hx⟩ := sl_ints hl hi2
    subst hbx
    refine w_region ?_
    refine w_pure want_none (y_move (v := .slice _ _ _) rfl rfl) rfl ?_
    refine w_pure want_none (y_move (v := .int _ _) rfl rfl) rfl ?_
    refine w_pure want_none (y_indexS Try.underlying37 Try.sizeOf3 rfl rfl rfl rfl (i := _) rfl (by omega)) rfl ?_
    refine w_pure want_none (y_load1 Try.isAgg3 hs rfl rfl hx) rfl ?_
    refine w_pure want_none (y_move (v := .int _ _) rfl rfl) rfl ?_
    refine w_pure want_none (y_leq rfl rfl rfl rfl) rfl ?_
    refine w_pure want_none (y_move (v := .bool _) rfl rfl) rfl ?_
    refine w_split (fun h23 => ?_) (fun h23 => ?_)
    ·
     try simp only [Bool.not_eq_true', Bool.not_eq_false', decide_eq_true_eq, decide_eq_false_iff_not, Int.not_lt, Int.not_le] at h23
     refine w_skipop rfl rfl rfl ?_
     refine w_skipop rfl rfl rfl ?_
     refine w_skipop rfl rfl rfl ?_
     refine w_skipop rfl rfl rfl ?_
     refine w_skipop rfl rfl rfl ?_
     refine w_skipop rfl rfl rfl ?_
     refine w_pure want_none (y_pickT (v := _) rfl rfl rfl rfl) rfl ?_
     refine w_nil ?_
     refine q_then (hK21 _ _ ?_)
     refine w_condT rfl rfl ?_
     refine w_seq (fun K25 hK24 => ?_)
     refine w_region ?_
     refine w_pure want_none (y_assign (v := _) rfl rfl) rfl ?_
     refine w_nil ?_
     refine q_then (hK24 _ _ ?_)
     refine w_ret ?_
     refine q_then_ret ?_
     refine q_blk_ret ?_
     refine q_then_ret ?_
     refine q_then_ret ?_
     refine q_blk_ret ?_
     refine q_then_ret ?_
     refine q_ret (l := [.tmp 4]) (vs := [_]) rfl ⟨⟨rfl, show _ = (.bool _ : Value) from rfl⟩, trivial⟩ ?_
     first
       | exact ⟨congrArg Value.bool (hri.trans (rising_end (by omega))).symm, hs⟩
       | exact ⟨congrArg Value.bool (hri.trans (rising_stop hi2 (by omega))).symm, hs⟩
    ·
     try simp only [Bool.not_eq_true', Bool.not_eq_false', decide_eq_true_eq, decide_eq_false_iff_not, Int.not_lt, Int.not_le] at h23
     refine w_pure (want_yes rfl rfl rfl) (y_move (v := .slice _ _ _) rfl rfl) rfl ?_
     refine w_pure (want_yes rfl rfl rfl) (y_move (v := .int _ _) rfl rfl) rfl ?_
     refine w_pure (want_yes rfl rfl rfl) (y_indexS Try.underlying37 Try.sizeOf3 rfl rfl rfl rfl (i := _) rfl (by omega)) rfl ?_
     refine w_pure (want_yes rfl rfl rfl) (y_load1 Try.isAgg3 hs rfl rfl hx) rfl ?_
     refine w_pure (want_yes rfl rfl rfl) (y_move (v := .int _ _) rfl rfl) rfl ?_
     refine w_pure (want_yes rfl rfl rfl) (y_geq rfl rfl rfl rfl) rfl ?_
     refine w_pure want_none (y_pickF (v := .bool _) rfl rfl rfl rfl) rfl ?_
     refine w_nil ?_
     refine q_then (hK21 _ _ ?_)
     refine w_cond rfl rfl (fun h26 => ?_) (fun h26 => ?_)
     ·
      try simp only [Bool.not_eq_true', Bool.not_eq_false', decide_eq_true_eq, decide_eq_false_iff_not, Int.not_lt, Int.not_le] at h26
      refine w_seq (fun K28 hK27 => ?_)
      refine w_region ?_
      refine w_pure want_none (y_assign (v := _) rfl rfl) rfl ?_
      refine w_nil ?_
      refine q_then (hK27 _ _ ?_)
      refine w_ret ?_
      refine q_then_ret ?_
      refine q_blk_ret ?_
      refine q_then_ret ?_
      refine q_then_ret ?_
      refine q_blk_ret ?_
      refine q_then_ret ?_
      refine q_ret (l := [.tmp 4]) (vs := [_]) rfl ⟨⟨rfl, show _ = (.bool _ : Value) from rfl⟩, trivial⟩ ?_
      first
        | exact ⟨congrArg Value.bool (hri.trans (rising_end (by omega))).symm, hs⟩
        | exact ⟨congrArg Value.bool (hri.trans (rising_stop hi2 (by omega))).symm, hs⟩
     ·
      try simp only [Bool.not_eq_true', Bool.not_eq_false', decide_eq_true_eq, decide_eq_false_iff_not, Int.not_lt, Int.not_le] at h26
      refine w_skip ?_
      refine q_then (hK19 _ _ ?_)
      refine w_region ?_
      refine w_pure want_none (y_move (v := .slice _ _ _) rfl rfl) rfl ?_
      refine w_pure want_none (y_move (v := .int _ _) rfl rfl) rfl ?_
      refine w_pure want_none (y_indexS Try.underlying37 Try.sizeOf3 rfl rfl rfl rfl (i := _) rfl (by omega)) rfl ?_
      refine w_pure want_none (y_load1 Try.isAgg3 hs rfl rfl hx) rfl ?_
      refine w_pure want_none (y_assign (v := .int _ _) rfl rfl) rfl ?_
      refine w_nil ?_
      refine q_blk_normal ?_
      refine q_then (hK17 _ _ ?_)
      refine w_region ?_
      refine w_pure want_none (y_move (v := .int _ _) rfl rfl) rfl ?_
      refine w_pure want_none (y_add rfl rfl rfl rfl (by omega) (by omega)) rfl ?_
      refine w_pure want_none (y_assign (v := .int _ _) rfl rfl) rfl ?_
      refine w_nil ?_
      refine q_then (hN9 _ _ (Nx.intro (l.length - (i + 1)) (by omega) (by repeat (first | exact agree_mix | refine agree_upd rfl ?_ | refine agree_updL rfl ?_ _ | refine agree_mixin rfl ?_)) ?_))
      exact ⟨i + 1, _, rfl, by omega, rfl, hri.trans (rising_step hi2 (by omega) (by omega)), hs⟩
   ·
    try simp only [Bool.not_eq_true', Bool.not_eq_false', decide_eq_true_eq, decide_eq_false_iff_not, Int.not_lt, Int.not_le] at h16
    refine w_exit ?_
    refine q_then_exit ?_
    refine q_then_exit ?_
    refine q_blk_this ?_
    refine q_then (hK5 _ _ ?_)
    refine w_seq (fun K30 hK29 => ?_)
    refine w_region ?_
    refine w_pure want_none (y_assign (v := _) rfl rfl) rfl ?_
    refine w_nil ?_
    refine q_then (hK29 _ _ ?_)
    refine w_ret ?_
    refine q_ret (l := [.tmp 4]) (vs := [_]) rfl ⟨⟨rfl, show _ = (.bool _ : Value) from rfl⟩, trivial⟩ ?_
    first
      | exact ⟨congrArg Value.bool (hri.trans (rising_end (by omega))).symm, hs⟩
      | exact ⟨congrArg Value.bool (hri.trans (rising_stop hi2 (by omega))).symm, hs⟩

theorem c53 {w0 w : World} {F : List (Nat × Obj)} (a b c d : Int) (hs : St w0 w F) :
  Con Try.prog 53 [.agg #[.int .i64 a, .int .i64 b], .agg #[.int .i64 c, .int .i64 d]] w fun v w' => v = .bool (decide (c ≤ a ∧ b ≤ d)) ∧ St w0 w' F := by
  refine con_of_wc (n := 17) Try.func53 rfl rfl (Nat.le_of_ble_eq_true rfl) ?_
  refine w_seq (fun K2 hK1 => ?_)
  refine w_region ?_
  refine w_box (v := .agg #[.int _ _, .int _ _]) (cs := [_, _]) want_none rfl rfl rfl hs (fun b3 w4 hs5 => ?_)
  refine w_box (v := .agg #[.int _ _, .int _ _]) (cs := [_, _]) want_none rfl rfl rfl hs5 (fun b6 w7 hs8 => ?_)
  refine w_pure want_none (y_assign (v := _) rfl rfl) rfl ?_
  refine w_nil ?_
  refine q_then (hK1 _ _ ?_)
  refine w_seq (fun K10 hK9 => ?_)
  refine w_region ?_
  refine w_pure want_none (y_fieldAddr (o := 0) (i := 0) Try.underlying34 rfl Try.sizeOf3 rfl rfl rfl) rfl ?_
  refine w_pure want_none (y_load1 Try.isAgg3 hs8 rfl rfl (ats_own (i := 1) (vs := [_]) rfl rfl)) rfl ?_
  refine w_pure want_none (y_fieldAddr (o := 0) (i := 0) Try.underlying34 rfl Try.sizeOf3 rfl rfl rfl) rfl ?_
  refine w_pure want_none (y_load1 Try.isAgg3 hs8 rfl rfl (ats_own (i := 0) (vs := [_]) rfl rfl)) rfl ?_
  refine w_pure want_none (y_geq rfl rfl rfl rfl) rfl ?_
  refine w_pure want_none (y_move (v := .bool _) rfl rfl) rfl ?_
  refine w_split (fun h11 => ?_) (fun h11 => ?_)
  ·
   try simp only [Bool.not_eq_true', Bool.not_eq_false', decide_eq_true_eq, decide_eq_false_iff_not, Int.not_lt, Int.not_le] at h11
   refine w_pure (want_yes rfl rfl rfl) (y_fieldAddr (o := 1) (i := 1) Try.underlying34 rfl Try.sizeOf3 rfl rfl rfl) rfl ?_
   refine w_pure (want_yes rfl rfl rfl) (y_load1 Try.isAgg3 hs8 rfl rfl (ats_own (i := 1) (vs := [_]) rfl rfl)) rfl ?_
   refine w_pure (want_yes rfl rfl rfl) (y_fieldAddr (o := 1) (i := 1) Try.underlying34 rfl Try.sizeOf3 rfl rfl rfl) rfl ?_
   refine w_pure (want_yes rfl rfl rfl) (y_load1 Try.isAgg3 hs8 rfl rfl (ats_own (i := 0) (vs := [_]) rfl rfl)) rfl ?_
   refine w_pure (want_yes rfl rfl rfl) (y_leq rfl rfl rfl rfl) rfl ?_
   refine w_pure want_none (y_pickT (v := .bool _) rfl rfl rfl rfl) rfl ?_
   refine w_pure want_none (y_assign (v := .bool _) rfl rfl) rfl ?_
   refine w_nil ?_
   refine q_then (hK9 _ _ ?_)
   refine w_ret ?_
   refine q_ret (l := [.tmp 4]) (vs := [_]) rfl ⟨⟨rfl, show _ = (.bool _ : Value) from rfl⟩, trivial⟩ ?_
   exact ⟨congrArg Value.bool (by rw [Bool.eq_iff_iff]; simp [*] <;> omega), hs8.tail.tail⟩
  ·
   try simp only [Bool.not_eq_true', Bool.not_eq_false', decide_eq_true_eq, decide_eq_false_iff_not, Int.not_lt, Int.not_le] at h11
   refine w_skipop rfl rfl rfl ?_
   refine w_skipop rfl rfl rfl ?_
   refine w_skipop rfl rfl rfl ?_
   refine w_skipop rfl rfl rfl ?_
   refine w_skipop rfl rfl rfl ?_
   refine w_pure want_none (y_pickF (v := _) rfl rfl rfl rfl) rfl ?_
   refine w_pure want_none (y_assign (v := .bool _) rfl rfl) rfl ?_
   refine w_nil ?_
   refine q_then (hK9 _ _ ?_)
   refine w_ret ?_
   refine q_ret (l := [.tmp 4]) (vs := [_]) rfl ⟨⟨rfl, show _ = (.bool _ : Value) from rfl⟩, trivial⟩ ?_
   exact ⟨congrArg Value.bool (by rw [Bool.eq_iff_iff]; simp [*] <;> omega), hs8.tail.tail⟩

theorem c42 {w0 w : World} {F : List (Nat × Obj)} (n a b : Int) (hs : St w0 w F) :
  Con Try.prog 42 [.int .i64 n, .agg #[.int .i64 a, .int .i64 b]] w fun v w' => v = .bool (decide (a ≤ n ∧ n ≤ b)) ∧ St w0 w' F := by
  refine con_of_wc (n := 11) Try.func42 rfl rfl (Nat.le_of_ble_eq_true rfl) ?_
  refine w_seq (fun K2 hK1 => ?_)
  refine w_region ?_
  refine w_box (v := .agg #[.int _ _, .int _ _]) (cs := [_, _]) want_none rfl rfl rfl hs (fun b3 w4 hs5 => ?_)
  refine w_pure want_none (y_assign (v := _) rfl rfl) rfl ?_
  refine w_nil ?_
  refine q_then (hK1 _ _ ?_)
  refine w_seq (fun K7 hK6 => ?_)
  refine w_region ?_
  refine w_pure want_none (y_move (v := .int _ _) rfl rfl) rfl ?_
  refine w_pure want_none (y_fieldAddr (o := 0) (i := 0) Try.underlying34 rfl Try.sizeOf3 rfl rfl rfl) rfl ?_
  refine w_pure want_none (y_load1 Try.isAgg3 hs5 rfl rfl (ats_own (i := 0) (vs := [_]) rfl rfl)) rfl ?_
  refine w_pure want_none (y_fieldAddr (o := 1) (i := 1) Try.underlying34 rfl Try.sizeOf3 rfl rfl rfl) rfl ?_
  refine w_pure want_none (y_load1 Try.isAgg3 hs5 rfl rfl (ats_own (i := 0) (vs := [_]) rfl rfl)) rfl ?_
  refine w_call want_none Try.call51 rfl rfl rfl rfl (c51 _ _ _ hs5) ?_
  rintro _ w9 ⟨rfl, hs10⟩
  refine w_pure want_none (y_assign (v := .bool _) rfl rfl) rfl ?_
  refine w_nil ?_
  refine q_then (hK6 _ _ ?_)
  refine w_ret ?_
  refine q_ret (l := [.tmp 4]) (vs := [_]) rfl ⟨⟨rfl, show _ = (.bool _ : Value) from rfl⟩, trivial⟩ ?_
  exact ⟨rfl, hs10.tail⟩

theorem c54 {w0 w : World} {F : List (Nat × Obj)} (aa ab : Option Addr) (a b : List Int) (ca cb : Nat) (hla : a.length ≤ 9223372036854775807) (hlb : b.length ≤ 9223372036854775807) (ha : Sl w0 F aa 1 (a.map fun x => [Value.int .i64 x])) (hb : Sl w0 F ab 1 (b.map fun x => [Value.int .i64 x])) (hs : St w0 w F) :
  Con Try.prog 54 [.slice aa a.length ca, .slice ab b.length cb] w fun v w' => v = .bool (a.all (hasI b)) ∧ St w0 w' F := by
  refine con_of_wc (n := 19) Try.func54 rfl rfl (Nat.le_of_ble_eq_true rfl) ?_
  refine w_seq (fun K2 hK1 => ?_)
  refine w_region ?_
  refine w_pure want_none (y_assign (v := _) rfl rfl) rfl ?_
  refine w_nil ?_
  refine q_then (hK1 _ _ ?_)
  refine w_seq (fun K4 hK3 => ?_)
  refine w_seq (fun K6 hK5 => ?_)
  refine w_region ?_
  refine w_pure want_none (y_assign (v := _) rfl rfl) rfl ?_
  refine w_nil ?_
  refine q_then (hK5 _ _ ?_)
  refine w_block ?_
  refine w_loop [4, 5, 6, 7, 8, 9, 10, 11, 12, 13, 14, 15, 16, 17, 18] [5] (fun k vs w => ∃ (i : Nat), vs = [.int .i64 i] ∧ i ≤ a.length ∧ k = a.length - i ∧ a.all (hasI b) = (a.drop i).all (hasI b) ∧ St w0 w F) (a.length) ?_ ?_
  ·
   exact ⟨0, rfl, by omega, by omega, rfl, hs⟩
  ·
   intro k vs μ w9 hI K8 hN7
   obtain ⟨i, rfl, hia, rfl, hri, hs⟩ := hI
   refine w_seq (fun K11 hK10 => ?_)
   refine w_seq (fun K13 hK12 => ?_)
   refine w_region ?_
   refine w_pure want_none (y_move (v := .int _ _) rfl rfl) rfl ?_
   refine w_pure want_none (y_move (v := .slice _ _ _) rfl rfl) rfl ?_
   refine w_pure want_none (y_lenS Try.underlying37 rfl rfl) rfl ?_
   refine w_pure want_none (y_lss rfl rfl rfl rfl) rfl ?_
   refine w_nil ?_
   refine q_then (hK12 _ _ ?_)
   refine w_cond rfl rfl (fun h14 => ?_) (fun h14 => ?_)
   ·
    try simp only [Bool.not_eq_true', Bool.not_eq_false', decide_eq_true_eq, decide_eq_false_iff_not, Int.not_lt, Int.not_le] at h14
    refine w_skip ?_
    refine q_then (hK10 _ _ ?_)
    refine w_seq (fun K16 hK15 => ?_)
    refine w_block ?_
    refine w_seq (fun K18 hK17 => ?_)
    have hi2 : i < a.length := by omega
    obtain ⟨bx, ox, hbx, hx⟩ := sl_ints ha hi2
    subst hbx
    refine w_region ?_
    refine w_pure want_none (y_move (v := .slice _ _ _) rfl rfl) rfl ?_
    refine w_pure want_none (y_move (v := .slice _ _ _) rfl rfl) rfl ?_
    refine w_pure want_none (y_move (v := .int _ _) rfl rfl) rfl ?_
    refine w_pure want_none (y_indexS Try.underlying37 Try.sizeOf3 rfl rfl rfl rfl (i := _) rfl (by omega)) rfl ?_
    refine w_pure want_none (y_load1 Try.isAgg3 hs rfl rfl hx) rfl ?_
    refine w_call want_none Try.call43 rfl rfl rfl rfl (c43 _ _ b hlb hb _ hs) ?_
    rintro _ w20 ⟨rfl, hs21⟩
    refine w_pure want_none (y_not rfl rfl) rfl ?_
    refine w_nil ?_
    refine q_then (hK17 _ _ ?_)
    refine w_cond rfl rfl (fun h22 => ?_) (fun h22 => ?_)
    ·
     try simp only [Bool.not_eq_true', Bool.not_eq_false', decide_eq_true_eq, decide_eq_false_iff_not, Int.not_lt, Int.not_le] at h22
     refine w_seq (fun K24 hK23 => ?_)
     refine w_region ?_
     refine w_pure want_none (y_assign (v := _) rfl rfl) rfl ?_
     refine w_nil ?_
     refine q_then (hK23 _ _ ?_)
     refine w_ret ?_
     refine q_blk_ret ?_
     refine q_then_ret ?_
     refine q_then_ret ?_
     refine q_blk_ret ?_
     refine q_then_ret ?_
     refine q_ret (l := [.tmp 4]) (vs := [_]) rfl ⟨⟨rfl, show _ = (.bool _ : Value) from rfl⟩, trivial⟩ ?_
     first
       | exact ⟨congrArg Value.bool (hri.trans (subset_end (by omega))).symm, hs21⟩
       | exact ⟨congrArg Value.bool (hri.trans (subset_stop hi2 (by assumption))).symm, hs21⟩
    ·
     try simp only [Bool.not_eq_true', Bool.not_eq_false', decide_eq_true_eq, decide_eq_false_iff_not, Int.not_lt, Int.not_le] at h22
     refine w_skip ?_
     refine q_blk_normal ?_
     refine q_then (hK15 _ _ ?_)
     refine w_region ?_
     refine w_pure want_none (y_move (v := .int _ _) rfl rfl) rfl ?_
     refine w_pure want_none (y_add rfl rfl rfl rfl (by omega) (by omega)) rfl ?_
     refine w_pure want_none (y_assign (v := .int _ _) rfl rfl) rfl ?_
     refine w_nil ?_
     refine q_then (hN7 _ _ (Nx.intro (a.length - (i + 1)) (by omega) (by repeat (first | exact agree_mix | refine agree_upd rfl ?_ | refine agree_updL rfl ?_ _ | refine agree_mixin rfl ?_)) ?_))
     exact ⟨i + 1, rfl, by omega, rfl, hri.trans (subset_step hi2 (by assumption)), hs21⟩
   ·
    try simp only [Bool.not_eq_true', Bool.not_eq_false', decide_eq_true_eq, decide_eq_false_iff_not, Int.not_lt, Int.not_le] at h14
    refine w_exit ?_
    refine q_then_exit ?_
    refine q_then_exit ?_
    refine q_blk_this ?_
    refine q_then (hK3 _ _ ?_)
    refine w_seq (fun K26 hK25 => ?_)
    refine w_region ?_
    refine w_pure want_none (y_assign (v := _) rfl rfl) rfl ?_
    refine w_nil ?_
    refine q_then (hK25 _ _ ?_)
    refine w_ret ?_
    refine q_ret (l := [.tmp 4]) (vs := [_]) rfl ⟨⟨rfl, show _ = (.bool _ : Value) from rfl⟩, trivial⟩ ?_
    first
      | exact ⟨congrArg Value.bool (hri.trans (subset_end (by omega))).symm, hs⟩
      | exact ⟨congrArg Value.bool (hri.trans (subset_stop hi2 (by assumption))).symm, hs⟩

theorem c52 {w0 w : World} {F : List (Nat × Obj)} (l : Lot) (p : At3) (hm : LIn w0 F l p) (hok : l.Ok) (abt : Option Addr) (cbt : Nat) (bt : List Int) (hbl : bt.length ≤ 9223372036854775807) (hbs : Sl w0 F abt 1 (bt.map fun x => [Value.int .i64 x])) (hs : St w0 w F) :
  Con Try.prog 52 [.agg (l.cells p).toArray, .slice abt bt.length cbt] w fun v w' => ∃ p2 B, v = .agg ((butL l bt).cells p2).toArray ∧ LIn w0 (B ++ F) (butL l bt) p2 ∧ St w0 w' (B ++ F) := by
  refine con_of_wc (n := 29) Try.func52 rfl rfl (Nat.le_of_ble_eq_true rfl) ?_
  obtain ⟨ag, cg, ab, cb, ac, cc⟩ := p
  have hlc := hok.lc
  refine w_seq (fun K2 hK1 => ?_)
  refine w_region ?_
  refine w_box (v := .agg #[.slice _ _ _, .slice _ _ _, .slice _ _ _]) (cs := [_, _, _]) want_none rfl rfl rfl hs (fun b3 w4 hs5 => ?_)
  refine w_alloc (cs := [_, _, _]) want_none Try.zeroValue26 rfl hs5 (fun b6 w7 hs8 => ?_)
  refine w_nil ?_
  refine q_then (hK1 _ _ ?_)
  refine w_seq (fun K10 hK9 => ?_)
  refine w_region ?_
  refine w_pure want_none (y_assign (v := _) rfl rfl) rfl ?_
  refine w_nil ?_
  refine q_then (hK9 _ _ ?_)
  refine w_seq (fun K12 hK11 => ?_)
  refine w_seq (fun K14 hK13 => ?_)
  refine w_region ?_
  refine w_pure want_none (y_assign (v := _) rfl rfl) rfl ?_
  refine w_nil ?_
  refine q_then (hK13 _ _ ?_)
  refine w_block ?_
  refine w_loop [5, 6, 7, 8, 9, 10, 11, 12, 13, 14, 15, 16, 17, 18, 19, 20, 21, 22, 23, 24, 25] [5, 6] (fun k vs w => ∃ (i : Nat) (v : Value) (B : List (Nat × Obj)), vs = [v, .int .i64 i] ∧ i ≤ l.counts.length ∧ k = l.counts.length - i ∧ Rt.Own v 51 2 (butC bt 0 (l.counts.take i)).length (crows (butC bt 0 (l.counts.take i))).flatten B ∧ St w0 w ((b6, blk 26 [.slice none 0 0, .slice none 0 0, .slice none 0 0]) :: (b3, blk 26 (l.cells ⟨ag, cg, ab, cb, ac, cc⟩)) :: (B ++ F))) (l.counts.length) ?_ ?_
  ·
   exact ⟨0, _, [], rfl, by omega, by omega, own_nil 51 2, hs8⟩
  ·
   intro k vs μ w17 hI K16 hN15
   obtain ⟨i, v, B, rfl, hia, rfl, hown, hs⟩ := hI
   refine w_seq (fun K19 hK18 => ?_)
   refine w_seq (fun K21 hK20 => ?_)
   refine w_region ?_
   refine w_pure want_none (y_move (v := .int _ _) rfl rfl) rfl ?_
   refine w_pure want_none (y_fieldAddr (o := 2) (i := 2) Try.underlying26 rfl Try.sizeOf24 rfl rfl rfl) rfl ?_
   refine w_pure want_none (y_load1 Try.isAgg24 hs rfl rfl (ats_own (i := 1) (vs := [_]) rfl rfl)) rfl ?_
   refine w_pure want_none (y_lenS Try.underlying24 rfl rfl) rfl ?_
   refine w_pure want_none (y_lss rfl rfl rfl rfl) rfl ?_
   refine w_nil ?_
   refine q_then (hK20 _ _ ?_)
   refine w_cond rfl rfl (fun h22 => ?_) (fun h22 => ?_)
   ·
    try simp only [Bool.not_eq_true', Bool.not_eq_false', decide_eq_true_eq, decide_eq_false_iff_not, Int.not_lt, Int.not_le] at h22
    refine w_skip ?_
    refine q_then (hK18 _ _ ?_)
    refine w_seq (fun K24 hK23 => ?_)
    refine w_block ?_
    refine w_seq (fun K26 hK25 => ?_)
    have hi2 : i < l.counts.length := by omega
    obtain ⟨bx, ox, hbx, hx⟩ := sl_crows hm.c hi2
    subst hbx
    have hbc := butC_len bt l.counts i
    refine w_region ?_
    refine w_pure want_none (y_move (v := .slice _ _ _) rfl rfl) rfl ?_
    refine w_pure want_none (y_move (v := .int _ _) rfl rfl) rfl ?_
    refine w_call want_none Try.call43 rfl rfl rfl rfl (c43 _ _ bt hbl hbs.app.cons.cons _ hs) ?_
    rintro _ w28 ⟨rfl, hs29⟩
    refine w_pure want_none (y_not rfl rfl) rfl ?_
    refine w_nil ?_
    refine q_then (hK25 _ _ ?_)
    refine w_cond rfl rfl (fun h30 => ?_) (fun h30 => ?_)
    ·
     try simp only [Bool.not_eq_true', Bool.not_eq_false', decide_eq_true_eq, decide_eq_false_iff_not, Int.not_lt, Int.not_le] at h30
     refine w_region ?_
     refine w_pure want_none (y_move (v := v) rfl rfl) rfl ?_
     refine w_pure want_none (y_fieldAddr (o := 2) (i := 2) Try.underlying26 rfl Try.sizeOf24 rfl rfl rfl) rfl ?_
     refine w_pure want_none (y_load1 Try.isAgg24 hs29 rfl rfl (ats_own (i := 1) (vs := [_]) rfl rfl)) rfl ?_
     refine w_pure want_none (y_move (v := .int _ _) rfl rfl) rfl ?_
     refine w_pure want_none (y_indexS Try.underlying24 Try.sizeOf51 rfl rfl rfl rfl (i := _) rfl (by omega)) rfl ?_
     refine w_pure want_none (y_loadN (vs := [_, _]) Try.isAgg51 Try.sizeOf51 hs29.tail.tail.drop rfl rfl hx) rfl ?_
     refine w_bslice (ps := [(0, _)]) (pv := [(0, .agg #[.int _ _, .int _ _])]) (cs := [_, _]) want_none rfl rfl (fun w => Try_La_fb6 _ _ w) hs29 (fun b31 w32 hs33 => ?_)
     refine w_append (X := (_ :: _ :: _ :: [])) (B := B) (rows := [[_, _]]) (sz := 2) (bytes := 16) want_none Try.underlying24 Try_info51 rfl rfl rfl rfl rfl rfl rfl rfl rfl hs33 hown (sl_own (i := 0) rfl (by simp) rfl) rfl (by simp) (by simp [Value.oneCell']) (by simp only [maxLen]; omega) (by omega) (fun v34 w35 B36 ho37 hs38 => ?_)
     replace hs38 := (show St _ _ (_ :: _ :: _ :: B36 ++ (F)) from hs38)
     refine w_pure want_none (y_assign (v := v34) rfl rfl) rfl ?_
     refine w_nil ?_
     refine q_blk_normal ?_
     refine q_then (hK23 _ _ ?_)
     refine w_region ?_
     refine w_pure want_none (y_move (v := .int _ _) rfl rfl) rfl ?_
     refine w_pure want_none (y_add rfl rfl rfl rfl (by omega) (by omega)) rfl ?_
     refine w_pure want_none (y_assign (v := .int _ _) rfl rfl) rfl ?_
     refine w_nil ?_
     refine q_then (hN15 _ _ (Nx.intro (l.counts.length - (i + 1)) (by omega) (by repeat (first | exact agree_mix | refine agree_upd rfl ?_ | refine agree_updL rfl ?_ _ | refine agree_mixin rfl ?_)) ?_))
     exact ⟨i + 1, _, _, rfl, by omega, rfl, by rw [butC_no hi2 (by assumption)]; exact own_crows ho37, hs38.tail⟩
    ·
     try simp only [Bool.not_eq_true', Bool.not_eq_false', decide_eq_true_eq, decide_eq_false_iff_not, Int.not_lt, Int.not_le] at h30
     refine w_skip ?_
     refine q_blk_normal ?_
     refine q_then (hK23 _ _ ?_)
     refine w_region ?_
     refine w_pure want_none (y_move (v := .int _ _) rfl rfl) rfl ?_
     refine w_pure want_none (y_add rfl rfl rfl rfl (by omega) (by omega)) rfl ?_
     refine w_pure want_none (y_assign (v := .int _ _) rfl rfl) rfl ?_
     refine w_nil ?_
     refine q_then (hN15 _ _ (Nx.intro (l.counts.length - (i + 1)) (by omega) (by repeat (first | exact agree_mix | refine agree_upd rfl ?_ | refine agree_updL rfl ?_ _ | refine agree_mixin rfl ?_)) ?_))
     exact ⟨i + 1, v, B, rfl, by omega, rfl, by rw [butC_yes hi2 (by assumption)]; exact hown, hs29⟩
   ·
    try simp only [Bool.not_eq_true', Bool.not_eq_false', decide_eq_true_eq, decide_eq_false_iff_not, Int.not_lt, Int.not_le] at h22
    refine w_exit ?_
    refine q_then_exit ?_
    refine q_then_exit ?_
    refine q_blk_this ?_
    refine q_then (hK11 _ _ ?_)
    refine w_seq (fun K40 hK39 => ?_)
    have hin : i = l.counts.length := by omega
    subst hin
    rw [List.take_length] at hown
    obtain ⟨aN, cN, rfl, hslN, hcN, _⟩ := own_rows0 (w0 := w0) hown (crows_row _) (by simp [crows]) rfl
    have hbi := (but_in bt l.counts 0).1
    refine w_region ?_
    refine w_pure want_none (y_move (v := .slice _ _ _) rfl rfl) rfl ?_
    refine w_pure want_none (y_fieldAddr (o := 2) (i := 2) Try.underlying26 rfl Try.sizeOf24 rfl rfl rfl) rfl ?_
    refine w_store (i := 1) (v := .slice _ _ _) (vs := [_]) want_none Try.sizeOf24 rfl rfl rfl rfl rfl (by simp [Value.oneCell']) hs rfl (Nat.le_of_ble_eq_true rfl) (fun w41 hs42 => ?_)
    refine w_nil ?_
    refine q_then (hK39 _ _ ?_)
    refine w_seq (fun K44 hK43 => ?_)
    refine w_region ?_
    refine w_pure want_none (y_loadN (vs := [_, _, _]) Try.isAgg26 Try.sizeOf26 hs42 rfl rfl (ats_own (i := 1) (vs := [_, _, _]) rfl rfl)) rfl ?_
    refine w_store (i := 0) (v := .agg #[.slice _ _ _, .slice _ _ _, .slice _ _ _]) (vs := [_, _, _]) want_none Try.sizeOf26 rfl rfl rfl rfl rfl (by simp [Value.oneCell']) hs42 rfl (Nat.le_of_ble_eq_true rfl) (fun w45 hs46 => ?_)
    refine w_nil ?_
    refine q_then (hK43 _ _ ?_)
    refine w_ret ?_
    refine q_ret (l := [.cell 4 26]) (vs := [_]) rfl ⟨⟨rfl, _, rfl, run_loadVarN (vs := [_, _, _]) Try.isAgg26 Try.sizeOf26 hs46 (ats_own (i := 0) (vs := [_, _, _]) rfl rfl)⟩, trivial⟩ ?_
    exact ⟨⟨ag, cg, ab, cb, aN, cN⟩, B, rfl, ⟨hm.g.app, hm.b.app, hslN.top, hm.lg, hm.lb, (by show (butC bt 0 l.counts).length ≤ _; omega), hm.cg, hm.cb, hcN, hm.ng⟩, hs46.tail.tail⟩

end Go.Proofs
/- Walks of this seat, printed by gen.py over the engine: what each function returns, in whatever world. No conditions but those of each contract. -/
set_option linter.unusedVariables false
set_option linter.unusedSimpArgs false
set_option maxRecDepth 20000
namespace Go.Proofs
open Go.Rt Go.Rt.Ha
attribute [local irreducible] WL WC Con Yd At Ats Sl Agree DW
theorem Try_V_fb5 (x0 : Option Addr) (l0 c0 : Nat) (w : World) : (Instr.buildSlice 64 1 [(0, .slice x0 l0 c0)].toArray).run Try.prog w = .ok (.slice (some ⟨w.heap.size, 0, none⟩) 1 1) (w.alloc (Go.Rt.blk 37 [.slice x0 l0 c0])) := by kernel_rfl
theorem Try_V_fb6  (w : World) : (Instr.buildSlice 37 0 [].toArray).run Try.prog w = .ok (.slice (some ⟨w.heap.size, 0, none⟩) 0 0) (w.alloc (Go.Rt.blk 3 [])) := by kernel_rfl
theorem Try_V_fb7 (x0 : Int) (w : World) : (Instr.buildSlice 37 1 [(0, .int .i64 x0)].toArray).run Try.prog w = .ok (.slice (some ⟨w.heap.size, 0, none⟩) 1 1) (w.alloc (Go.Rt.blk 3 [.int .i64 x0])) := by kernel_rfl
theorem Try_info37 : Try.prog.info? 37 = some Try.t37 := by kernel_rfl
theorem c92 {w0 w : World} {F : List (Nat × Obj)} (l : Lot) (p : At3) (hm : LIn w0 F l p) (hok : l.Ok) (hs : St w0 w F) :
  Con Try.prog 92 [.agg (l.cells p).toArray] w fun v w' => ∃ (B : List (Nat × Obj)) (vs : List Value) (a : Option Addr) (c : Nat), v = .slice a (felt l.bunches).length c ∧ Sl w0 B a 1 (vs.map fun v => [v]) ∧ EL w0 B vs (felt l.bunches) ∧ St w0 w' (B ++ F) := by
  refine con_of_wc (n := 54) Try.func92 rfl rfl (Nat.le_of_ble_eq_true rfl) ?_
  have hlb := hok.lb
  
  refine w_seq (fun K2 hK1 => ?_)
  refine w_region ?_
  refine w_box (v := .agg #[.slice _ _ _, .slice _ _ _, .slice _ _ _]) (cs := [_, _, _]) want_none rfl rfl rfl hs (fun b3 w4 hs5 => ?_)
  refine w_pure want_none (y_assign (v := _) rfl rfl) rfl ?_
  refine w_nil ?_
  refine q_then (hK1 _ _ ?_)
  refine w_seq (fun K7 hK6 => ?_)
  have hbx := ats_ofR (i := 0) (vs := l.cells p) hs5 rfl rfl
  refine w_region ?_
  refine w_bslice (ps := [(0, _)]) (pv := [(0, .slice _ _ _)]) (cs := [_]) want_none rfl rfl (fun w => Try_V_fb5 _ _ _ w) hs5 (fun b8 w9 hs10 => ?_)
  refine w_pure want_none (y_assign (v := .slice _ _ _) rfl rfl) rfl ?_
  refine w_nil ?_
  refine q_then (hK6 _ _ ?_)
  refine w_seq (fun K12 hK11 => ?_)
  refine w_seq (fun K14 hK13 => ?_)
  refine w_region ?_
  refine w_pure want_none (y_assign (v := _) rfl rfl) rfl ?_
  refine w_nil ?_
  refine q_then (hK13 _ _ ?_)
  refine w_block ?_
  refine w_loop [3, 4, 5, 6, 7, 9, 10, 11, 12, 13, 14, 15, 16, 17, 18, 19, 20, 21, 22, 23, 24, 25, 26, 27, 28, 29, 30, 31, 32, 33, 34, 35, 36, 37, 38, 39, 40, 41, 42, 43, 44, 45, 46, 47, 48, 49, 50, 51, 52] [3, 4] (fun kk vs0 w => ∃ (i : Nat) (vO : Value) (OB E : List (Nat × Obj)) (vs : List Value), vs0 = [vO, .int .i64 i] ∧ i ≤ l.bunches.length ∧ kk = l.bunches.length - i ∧ Rt.Own vO 37 1 (feltTo l i).length vs OB ∧ EL w0 E vs (feltTo l i) ∧ St w0 w (OB ++ (E ++ ((b3, blk 26 (l.cells p)) :: F)))) (l.bunches.length) ?_ ?_
  ·
   exact ⟨0, _, [_], [], [.slice none 0 0], rfl, by omega, by omega, own_lit rfl (by simp [maxLen]), ⟨rfl, fun k hk => ⟨none, 0, by simp [felt_zero] at hk; subst hk; rfl, by simp [felt_zero] at hk; subst hk; exact Sl.nil _ _, fun _ => rfl⟩⟩, hs10⟩
  ·
   intro k vs μ w17 hI K16 hN15
   obtain ⟨i, vO, OB, E, vs, rfl, hia, rfl, hown0, hel, hs⟩ := hI
   refine w_seq (fun K19 hK18 => ?_)
   refine w_seq (fun K21 hK20 => ?_)
   refine w_region ?_
   refine w_pure want_none (y_move (v := .int _ _) rfl rfl) rfl ?_
   refine w_pure want_none (y_fieldAddr (o := 1) (i := 1) Try.underlying26 rfl Try.sizeOf23 rfl rfl rfl) rfl ?_
   refine w_pure want_none (y_load1 Try.isAgg23 hs.drop.drop rfl rfl (show Ats _ _ _ _ [_] from Ats.part hbx 1 1)) rfl ?_
   refine w_pure want_none (y_lenS Try.underlying23 rfl rfl) rfl ?_
   refine w_pure want_none (y_lss rfl rfl rfl rfl) rfl ?_
   refine w_nil ?_
   refine q_then (hK20 _ _ ?_)
   refine w_cond rfl rfl (fun h22 => ?_) (fun h22 => ?_)
   ·
    try simp only [Bool.not_eq_true', Bool.not_eq_false', decide_eq_true_eq, decide_eq_false_iff_not, Int.not_lt, Int.not_le] at h22
    refine w_skip ?_
    refine q_then (hK18 _ _ ?_)
    refine w_seq (fun K24 hK23 => ?_)
    refine w_block ?_
    refine w_seq (fun K26 hK25 => ?_)
    have hi2 : i < l.bunches.length := by omega
    have hwl := feltTo_len hok (Nat.le_of_lt hi2)
    have hbb := hok.bunch _ (List.getElem_mem hi2)
    obtain ⟨aO, cO, rfl, hslO⟩ := own_sl_id (w0 := w0) hown0 hel.1 (E ++ ((b3, blk 26 (l.cells p)) :: F))
    obtain ⟨by_, oy, hby, hy⟩ := sl_brows hm.b hi2
    refine w_region ?_
    refine w_pure want_none (y_assign (v := _) rfl rfl) rfl ?_
    refine w_nil ?_
    refine q_then (hK25 _ _ ?_)
    refine w_seq (fun K28 hK27 => ?_)
    refine w_seq (fun K30 hK29 => ?_)
    refine w_region ?_
    refine w_pure want_none (y_assign (v := _) rfl rfl) rfl ?_
    refine w_nil ?_
    refine q_then (hK29 _ _ ?_)
    refine w_block ?_
    refine w_loop [5, 6, 7, 16, 17, 18, 19, 20, 21, 22, 23, 24, 25, 26, 27, 28, 29, 30, 31, 32, 33, 34, 35, 36, 37, 38, 39, 40, 41, 42, 43, 44, 45, 46, 47, 48, 49, 50, 51] [5, 6] (fun kk vs0 w => ∃ (k : Nat) (vN : Value) (NB E1 : List (Nat × Obj)) (ws : List Value), vs0 = [vN, .int .i64 k] ∧ k ≤ (feltTo l i).length ∧ kk = (feltTo l i).length - k ∧ Rt.Own vN 37 1 (fTo (l.bunches[i]'hi2) (feltTo l i) k).length ws NB ∧ EL w0 E1 ws (fTo (l.bunches[i]'hi2) (feltTo l i) k) ∧ St w0 w (NB ++ (E1 ++ (OB ++ (E ++ ((b3, blk 26 (l.cells p)) :: F)))))) ((feltTo l i).length) ?_ ?_
    ·
     exact ⟨0, _, [], [], [], rfl, by omega, by omega, own_nil 37 1, EL.nil _ _, hs⟩
    ·
     intro k vs μ w33 hI K32 hN31
     obtain ⟨k, vN, NB, E1, ws, rfl, hka, rfl, hown1, hel1, hs⟩ := hI
     refine w_seq (fun K35 hK34 => ?_)
     refine w_seq (fun K37 hK36 => ?_)
     refine w_region ?_
     refine w_pure want_none (y_move (v := .int _ _) rfl rfl) rfl ?_
     refine w_pure want_none (y_move (v := .slice _ _ _) rfl rfl) rfl ?_
     refine w_pure want_none (y_lenS Try.underlying64 rfl rfl) rfl ?_
     refine w_pure want_none (y_lss rfl rfl rfl rfl) rfl ?_
     refine w_nil ?_
     refine q_then (hK36 _ _ ?_)
     refine w_cond rfl rfl (fun h38 => ?_) (fun h38 => ?_)
     ·
      try simp only [Bool.not_eq_true', Bool.not_eq_false', decide_eq_true_eq, decide_eq_false_iff_not, Int.not_lt, Int.not_le] at h38
      refine w_skip ?_
      refine q_then (hK34 _ _ ?_)
      refine w_seq (fun K40 hK39 => ?_)
      refine w_block ?_
      refine w_seq (fun K42 hK41 => ?_)
      have hk2 : k < (feltTo l i).length := by omega
      obtain ⟨bx, ox, b2, c2, haO, hx, hsx0, hnx⟩ := el_at hslO (hel.mono fun _ h => h.drop.front) hk2
      subst haO
      have hxl := feltTo_in (Nat.le_of_lt hi2) (List.getElem_mem hk2)
      refine w_region ?_
      refine w_pure want_none (y_fieldAddr (o := 1) (i := 1) Try.underlying26 rfl Try.sizeOf23 rfl rfl rfl) rfl ?_
      refine w_pure want_none (yd_slice hby (y_load1 Try.isAgg23 hs.drop.drop.drop.drop rfl rfl (show Ats _ _ _ _ [_] from Ats.part hbx 1 1))) rfl ?_
      refine w_pure want_none (y_move (v := .int _ _) rfl rfl) rfl ?_
      refine w_pure want_none (y_indexS Try.underlying23 Try.sizeOf81 rfl rfl rfl rfl (i := _) rfl (by omega)) rfl ?_
      refine w_pure want_none (y_fieldAddr (o := 0) (i := 0) Try.underlying81 rfl Try.sizeOf34 rfl rfl rfl) rfl ?_
      refine w_pure want_none (y_fieldAddr (o := 0) (i := 0) Try.underlying34 rfl Try.sizeOf3 rfl rfl rfl) rfl ?_
      refine w_pure want_none (y_load1 Try.isAgg3 hs.drop.drop.drop.drop.tail rfl rfl (show Ats _ _ _ _ [_] from Ats.part hy 0 1)) rfl ?_
      refine w_pure want_none (y_assign (v := .int _ _) rfl rfl) rfl ?_
      refine w_nil ?_
      refine q_then (hK41 _ _ ?_)
      refine w_block ?_
      refine w_loop [5, 7, 29, 30, 31, 32, 33, 34, 35, 36, 37, 38, 39, 40, 41, 42, 43, 44, 45, 46, 47, 48, 49, 50, 51] [5, 7] (fun kk vs0 w => ∃ (q : Nat) (vN : Value) (NB E1 : List (Nat × Obj)) (ws : List Value), vs0 = [vN, .int .i64 ((l.bunches[i]'hi2).lo + q)] ∧ (q : Int) ≤ (l.bunches[i]'hi2).hi + 1 - (l.bunches[i]'hi2).lo ∧ kk = ((l.bunches[i]'hi2).hi + 1 - (l.bunches[i]'hi2).lo).toNat - q ∧ Rt.Own vN 37 1 (fTo (l.bunches[i]'hi2) (feltTo l i) k ++ fPart (l.bunches[i]'hi2) ((feltTo l i)[k]'hk2) q).length ws NB ∧ EL w0 E1 ws (fTo (l.bunches[i]'hi2) (feltTo l i) k ++ fPart (l.bunches[i]'hi2) ((feltTo l i)[k]'hk2) q) ∧ St w0 w (NB ++ (E1 ++ (OB ++ (E ++ ((b3, blk 26 (l.cells p)) :: F)))))) (((l.bunches[i]'hi2).hi + 1 - (l.bunches[i]'hi2).lo).toNat) ?_ ?_
      ·
       exact ⟨0, vN, NB, E1, ws, iv_v (by omega), by omega, by omega, by rw [show fPart _ _ 0 = [] from rfl, List.append_nil]; exact hown1, by rw [show fPart _ _ 0 = [] from rfl, List.append_nil]; exact hel1, hs⟩
      ·
       intro k vs μ w45 hI K44 hN43
       obtain ⟨q, vN, NB, E1, ws, rfl, hqa, rfl, hown2, hel2, hs⟩ := hI
       refine w_seq (fun K47 hK46 => ?_)
       refine w_seq (fun K49 hK48 => ?_)
       refine w_region ?_
       refine w_pure want_none (y_move (v := .int _ _) rfl rfl) rfl ?_
       refine w_pure want_none (y_fieldAddr (o := 1) (i := 1) Try.underlying26 rfl Try.sizeOf23 rfl rfl rfl) rfl ?_
       refine w_pure want_none (yd_slice hby (y_load1 Try.isAgg23 hs.drop.drop.drop.drop rfl rfl (show Ats _ _ _ _ [_] from Ats.part hbx 1 1))) rfl ?_
       refine w_pure want_none (y_move (v := .int _ _) rfl rfl) rfl ?_
       refine w_pure want_none (y_indexS Try.underlying23 Try.sizeOf81 rfl rfl rfl rfl (i := _) rfl (by omega)) rfl ?_
       refine w_pure want_none (y_fieldAddr (o := 0) (i := 0) Try.underlying81 rfl Try.sizeOf34 rfl rfl rfl) rfl ?_
       refine w_pure want_none (y_fieldAddr (o := 1) (i := 1) Try.underlying34 rfl Try.sizeOf3 rfl rfl rfl) rfl ?_
       refine w_pure want_none (y_load1 Try.isAgg3 hs.drop.drop.drop.drop.tail rfl rfl (show Ats _ _ _ _ [_] from Ats.part hy 1 1)) rfl ?_
       refine w_pure want_none (y_leq rfl rfl rfl rfl) rfl ?_
       refine w_nil ?_
       refine q_then (hK48 _ _ ?_)
       refine w_cond rfl rfl (fun h50 => ?_) (fun h50 => ?_)
       ·
        try simp only [Bool.not_eq_true', Bool.not_eq_false', decide_eq_true_eq, decide_eq_false_iff_not, Int.not_lt, Int.not_le] at h50
        refine w_skip ?_
        refine q_then (hK46 _ _ ?_)
        refine w_seq (fun K52 hK51 => ?_)
        refine w_block ?_
        have hgl := fTo_len (b := (l.bunches[i]'hi2)) (ws := (feltTo l i)) (by omega) k
        have hgq := fPart_len (l.bunches[i]'hi2) ((feltTo l i)[k]'hk2) q
        refine w_region ?_
        refine w_pure want_none (y_move (v := vN) rfl rfl) rfl ?_
        refine w_bslice (ps := []) (pv := []) (cs := []) want_none rfl rfl (fun w => Try_V_fb6  w) hs (fun b53 w54 hs55 => ?_)
        refine w_pure want_none (y_move (v := .slice _ _ _) rfl rfl) rfl ?_
        refine w_pure want_none (y_move (v := .int _ _) rfl rfl) rfl ?_
        refine w_pure want_none (y_indexS Try.underlying64 Try.sizeOf37 rfl rfl rfl rfl (i := _) rfl (by omega)) rfl ?_
        refine w_pure want_none (y_load1 Try.isAgg37 hs55.tail.drop.drop rfl rfl hx) rfl ?_
        refine w_append (X := ([])) (B := [_]) (rows := (((feltTo l i)[k]'hk2).map fun x => [Value.int .i64 x])) (sz := 1) (bytes := 8) want_none Try.underlying37 Try_info3 rfl rfl rfl rfl rfl rfl rfl rfl rfl hs55 own_made hsx0.app.app.cons (by simp) hnx (ints_one _) (by simp only [maxLen]; omega) (by omega) (fun v56 w57 B58 ho59 hs60 => ?_)
        replace hs60 := (show St _ _ (B58 ++ (NB ++ (E1 ++ (OB ++ (E ++ (_ :: F)))))) from hs60)
        refine w_pure want_none (y_move (v := .int _ _) rfl rfl) rfl ?_
        refine w_bslice (ps := [(0, _)]) (pv := [(0, .int _ _)]) (cs := [_]) want_none rfl rfl (fun w => Try_V_fb7 _ w) hs60 (fun b61 w62 hs63 => ?_)
        refine w_append (X := (_ :: [])) (B := B58) (rows := [[_]]) (sz := 1) (bytes := 8) want_none Try.underlying37 Try_info3 rfl rfl rfl rfl rfl rfl rfl rfl rfl hs63 ho59 (sl_own (i := 0) rfl (by simp) rfl) rfl (by simp) (by simp [Value.oneCell']) (by simp only [maxLen]; omega) (by omega) (fun v64 w65 B66 ho67 hs68 => ?_)
        replace hs68 := (show St _ _ (_ :: B66 ++ (NB ++ (E1 ++ (OB ++ (E ++ (_ :: F)))))) from hs68)
        obtain ⟨a3, c3, rfl, hsl3, hn3, _⟩ := own_ints (w0 := w0) (own_ints1 ho67)
        refine w_bslice (ps := [(0, _)]) (pv := [(0, .slice _ _ _)]) (cs := [_]) want_none rfl rfl (fun w => Try_V_fb5 _ _ _ w) hs68 (fun b69 w70 hs71 => ?_)
        refine w_append (X := (_ :: _ :: B66)) (B := NB) (rows := [[_]]) (sz := 1) (bytes := 24) want_none Try.underlying64 Try_info37 rfl rfl rfl rfl rfl rfl rfl rfl rfl hs71 hown2 (sl_own (i := 0) rfl (by simp) rfl) rfl (by simp) (by simp [Value.oneCell']) (by simp only [maxLen, List.length_append]; omega) (by simp only [List.length_append]; omega) (fun v72 w73 B74 ho75 hs76 => ?_)
        replace hs76 := (show St _ _ (_ :: _ :: B66 ++ (B74 ++ (E1 ++ (OB ++ (E ++ (_ :: F)))))) from hs76)
        refine w_pure want_none (y_assign (v := v72) rfl rfl) rfl ?_
        refine w_nil ?_
        refine q_blk_normal ?_
        refine q_then (hK51 _ _ ?_)
        refine w_region ?_
        refine w_pure want_none (y_move (v := .int _ _) rfl rfl) rfl ?_
        refine w_pure want_none (y_add rfl rfl rfl rfl (by omega) (by omega)) rfl ?_
        refine w_pure want_none (y_assign (v := .int _ _) rfl rfl) rfl ?_
        refine w_nil ?_
        refine q_then (hN43 _ _ (Nx.intro (((l.bunches[i]'hi2).hi + 1 - (l.bunches[i]'hi2).lo).toNat - (q + 1)) (by omega) (by repeat (first | exact agree_mix | refine agree_upd rfl ?_ | refine agree_updL rfl ?_ _ | refine agree_mixin rfl ?_)) ?_))
        exact ⟨q + 1, _, _, B66 ++ E1, _, iv_v (by omega), by omega, rfl, by rw [fPart_succ, ← List.append_assoc]; exact own_el ho75, by rw [fPart_succ, ← List.append_assoc]; exact el_more hel2 hsl3 hn3, el_perm hs76⟩
       ·
        try simp only [Bool.not_eq_true', Bool.not_eq_false', decide_eq_true_eq, decide_eq_false_iff_not, Int.not_lt, Int.not_le] at h50
        refine w_exit ?_
        refine q_then_exit ?_
        refine q_then_exit ?_
        refine q_blk_this ?_
        refine q_blk_normal ?_
        refine q_then (hK39 _ _ ?_)
        refine w_region ?_
        refine w_pure want_none (y_move (v := .int _ _) rfl rfl) rfl ?_
        refine w_pure want_none (y_add rfl rfl rfl rfl (by omega) (by omega)) rfl ?_
        refine w_pure want_none (y_assign (v := .int _ _) rfl rfl) rfl ?_
        refine w_nil ?_
        refine q_then (hN31 _ _ (Nx.intro ((feltTo l i).length - (k + 1)) (by omega) (by repeat (first | exact agree_mix | refine agree_upd rfl ?_ | refine agree_updL rfl ?_ _ | refine agree_mixin rfl ?_)) ?_))
        have hqb : q = ((l.bunches[i]'hi2).hi + 1 - (l.bunches[i]'hi2).lo).toNat := by omega
        rw [fPart_all hqb, ← fTo_succ hk2] at hown2 hel2
        exact ⟨k + 1, vN, NB, E1, ws, rfl, by omega, by omega, hown2, hel2, hs⟩
     ·
      try simp only [Bool.not_eq_true', Bool.not_eq_false', decide_eq_true_eq, decide_eq_false_iff_not, Int.not_lt, Int.not_le] at h38
      refine w_exit ?_
      refine q_then_exit ?_
      refine q_then_exit ?_
      refine q_blk_this ?_
      refine q_then (hK27 _ _ ?_)
      refine w_region ?_
      refine w_pure want_none (y_move (v := vN) rfl rfl) rfl ?_
      refine w_pure want_none (y_assign (v := vN) rfl rfl) rfl ?_
      refine w_nil ?_
      refine q_blk_normal ?_
      refine q_then (hK23 _ _ ?_)
      refine w_region ?_
      refine w_pure want_none (y_move (v := .int _ _) rfl rfl) rfl ?_
      refine w_pure want_none (y_add rfl rfl rfl rfl (by omega) (by omega)) rfl ?_
      refine w_pure want_none (y_assign (v := .int _ _) rfl rfl) rfl ?_
      refine w_nil ?_
      refine q_then (hN15 _ _ (Nx.intro (l.bunches.length - (i + 1)) (by omega) (by repeat (first | exact agree_mix | refine agree_upd rfl ?_ | refine agree_updL rfl ?_ _ | refine agree_mixin rfl ?_)) ?_))
      have hkn : k = (feltTo l i).length := by omega
      rw [hkn, felt_step hi2] at hown1 hel1
      exact ⟨i + 1, vN, NB, E1, ws, rfl, by omega, rfl, hown1, hel1, (hs.perm (el_drop2 NB E1 OB E _)).drop⟩
   ·
    try simp only [Bool.not_eq_true', Bool.not_eq_false', decide_eq_true_eq, decide_eq_false_iff_not, Int.not_lt, Int.not_le] at h22
    refine w_exit ?_
    refine q_then_exit ?_
    refine q_then_exit ?_
    refine q_blk_this ?_
    refine q_then (hK11 _ _ ?_)
    refine w_seq (fun K78 hK77 => ?_)
    refine w_region ?_
    refine w_pure want_none (y_move (v := vO) rfl rfl) rfl ?_
    refine w_pure want_none (y_assign (v := vO) rfl rfl) rfl ?_
    refine w_nil ?_
    refine q_then (hK77 _ _ ?_)
    refine w_ret ?_
    refine q_ret (l := [.tmp 2]) (vs := [_]) rfl ⟨⟨rfl, show _ = (vO : Value) from rfl⟩, trivial⟩ ?_
    have hin : i = l.bunches.length := by omega
    subst hin
    rw [feltTo_all] at hown0 hel
    obtain ⟨aO, cO, rfl, hslO⟩ := own_sl_id (w0 := w0) hown0 hel.1 E
    exact ⟨OB ++ E, vs, aO, cO, rfl, hslO, hel.app, kq_own (by rw [List.append_assoc]; exact hs)⟩

end Go.Proofs
/- Walks of this seat, printed by gen.py over the engine: what each function returns, in whatever world. No conditions but those of each contract. -/
set_option linter.unusedVariables false
set_option linter.unusedSimpArgs false
set_option maxRecDepth 20000
namespace Go.Proofs
open Go.Rt Go.Rt.Ha
attribute [local irreducible] WL WC Con Yd At Ats Sl Agree DW
theorem Try_Wa_fb6 (x0 : Option Addr) (l0 c0 : Nat) (w : World) : (Instr.buildSlice 64 1 [(0, .slice x0 l0 c0)].toArray).run Try.prog w = .ok (.slice (some ⟨w.heap.size, 0, none⟩) 1 1) (w.alloc (Go.Rt.blk 37 [.slice x0 l0 c0])) := by kernel_rfl
theorem felt_all {l : Lot} (hok : l.Ok) : (felt l.bunches).length ≤ 4096 := by
  have h := feltTo_len hok (Nat.le_refl l.bunches.length); rw [feltTo_all] at h; exact h
theorem so_and {a b : Bool} {c d : Int} {x y : Bool} (h : (x && y) = a) (k : c = d) : [Value.bool (x && y), Value.int .i64 c] = [Value.bool a, Value.int .i64 d] := by rw [h, k]
theorem c45 {w0 w : World} {F : List (Nat × Obj)} (l : Lot) (p : At3) (hm : LIn w0 F l p) (hok : l.Ok) (abt : Option Addr) (cbt : Nat) (bt : List Int) (hbl : bt.length ≤ 9223372036854775807) (hbs : Sl w0 F abt 1 (bt.map fun x => [Value.int .i64 x])) (hs : St w0 w F) :
  Con Try.prog 45 [.agg (l.cells p).toArray, .slice abt bt.length cbt] w fun v w' => ∃ (B : List (Nat × Obj)) (vs : List Value) (a : Option Addr) (c : Nat), v = .slice a (waysR l bt).length c ∧ Sl w0 B a 1 (vs.map fun v => [v]) ∧ EL w0 B vs (waysR l bt) ∧ St w0 w' (B ++ F) := by
  refine con_of_wc (n := 59) Try.func45 rfl rfl (Nat.le_of_ble_eq_true rfl) ?_
  have hlc := hok.lc
  have hlb := hok.lb
  refine w_seq (fun K2 hK1 => ?_)
  refine w_region ?_
  refine w_box (v := .agg #[.slice _ _ _, .slice _ _ _, .slice _ _ _]) (cs := [_, _, _]) want_none rfl rfl rfl hs (fun b3 w4 hs5 => ?_)
  refine w_pure want_none (y_assign (v := _) rfl rfl) rfl ?_
  refine w_nil ?_
  refine q_then (hK1 _ _ ?_)
  refine w_seq (fun K7 hK6 => ?_)
  have hbx := ats_ofR (i := 0) (vs := l.cells p) hs5 rfl rfl
  refine w_region ?_
  refine w_pure want_none (y_loadN (vs := [_, _, _]) Try.isAgg26 Try.sizeOf26 hs5 rfl rfl hbx) rfl ?_
  refine w_call want_none Try.call92 rfl rfl rfl rfl (c92 l p hm.cons hok hs5) ?_
  rintro _ w9 ⟨FB, fv, aF, cF, rfl, hslF, helF, hs10⟩
  replace hs10 := (show St _ _ (FB ++ (_ :: F)) from hs10)
  have hfl := felt_all hok
  refine w_pure want_none (y_assign (v := .slice _ _ _) rfl rfl) rfl ?_
  refine w_nil ?_
  refine q_then (hK6 _ _ ?_)
  refine w_seq (fun K12 hK11 => ?_)
  refine w_region ?_
  refine w_pure want_none (y_assign (v := _) rfl rfl) rfl ?_
  refine w_nil ?_
  refine q_then (hK11 _ _ ?_)
  refine w_seq (fun K14 hK13 => ?_)
  refine w_seq (fun K16 hK15 => ?_)
  refine w_region ?_
  refine w_pure want_none (y_assign (v := _) rfl rfl) rfl ?_
  refine w_nil ?_
  refine q_then (hK15 _ _ ?_)
  refine w_block ?_
  refine w_loop [6, 7, 8, 9, 12, 13, 14, 15, 16, 17, 18, 19, 20, 21, 22, 23, 24, 25, 26, 27, 28, 29, 30, 31, 32, 33, 34, 35, 36, 37, 38, 39, 40, 41, 42, 43, 44, 45, 46, 47, 48, 49, 50, 51, 52, 53, 54, 55, 56, 57] [6, 7] (fun kk vs0 w => ∃ (i : Nat) (v : Value) (OB : List (Nat × Obj)) (ws : List Value), vs0 = [v, .int .i64 i] ∧ i ≤ (felt l.bunches).length ∧ kk = (felt l.bunches).length - i ∧ Rt.Own v 37 1 (((felt l.bunches).take i).filter (fun h => soR bt h 0 l.counts)).length ws OB ∧ EL w0 FB ws (((felt l.bunches).take i).filter (fun h => soR bt h 0 l.counts)) ∧ St w0 w (OB ++ (FB ++ ((b3, blk 26 (l.cells p)) :: F)))) ((felt l.bunches).length) ?_ ?_
  ·
   exact ⟨0, _, [], [], rfl, by omega, by omega, own_nil 37 1, EL.nil _ _, hs10⟩
  ·
   intro k vs μ w19 hI K18 hN17
   obtain ⟨i, v, OB, ws, rfl, hia, rfl, hown, hel, hs⟩ := hI
   refine w_seq (fun K21 hK20 => ?_)
   refine w_seq (fun K23 hK22 => ?_)
   refine w_region ?_
   refine w_pure want_none (y_move (v := .int _ _) rfl rfl) rfl ?_
   refine w_pure want_none (y_move (v := .slice _ _ _) rfl rfl) rfl ?_
   refine w_pure want_none (y_lenS Try.underlying64 rfl rfl) rfl ?_
   refine w_pure want_none (y_lss rfl rfl rfl rfl) rfl ?_
   refine w_nil ?_
   refine q_then (hK22 _ _ ?_)
   refine w_cond rfl rfl (fun h24 => ?_) (fun h24 => ?_)
   ·
    try simp only [Bool.not_eq_true', Bool.not_eq_false', decide_eq_true_eq, decide_eq_false_iff_not, Int.not_lt, Int.not_le] at h24
    refine w_skip ?_
    refine q_then (hK20 _ _ ?_)
    refine w_seq (fun K26 hK25 => ?_)
    refine w_block ?_
    refine w_seq (fun K28 hK27 => ?_)
    have hi2 : i < (felt l.bunches).length := by omega
    obtain ⟨bx, ox, bq3, c3, haF, hx0, hsx0, hnx⟩ := el_at hslF helF hi2
    subst haF
    have hx := hx0.top (F := (b3, blk 26 (l.cells p)) :: F)
    have hin := felt_num hok (List.getElem_mem hi2)
    have hwl : (((felt l.bunches).take i).filter (fun h => soR bt h 0 l.counts)).length ≤ i := by have := List.length_filter_le (fun h => soR bt h 0 l.counts) ((felt l.bunches).take i); rw [List.length_take] at this; omega
    refine w_region ?_
    refine w_pure want_none (y_assign (v := _) rfl rfl) rfl ?_
    refine w_nil ?_
    refine q_then (hK27 _ _ ?_)
    refine w_seq (fun K30 hK29 => ?_)
    refine w_seq (fun K32 hK31 => ?_)
    refine w_region ?_
    refine w_pure want_none (y_assign (v := _) rfl rfl) rfl ?_
    refine w_nil ?_
    refine q_then (hK31 _ _ ?_)
    refine w_block ?_
    refine w_loop [8, 9, 18, 19, 20, 21, 22, 23, 24, 25, 26, 27, 28, 29, 30, 31, 32, 33, 34, 35, 36, 37, 38, 39, 40, 41, 42, 43, 44, 45, 46, 47, 48, 49] [8, 9] (fun kk vs0 w => ∃ (k : Nat), vs0 = [.bool (soR bt ((felt l.bunches)[i]'hi2) 0 (l.counts.take k)), .int .i64 k] ∧ k ≤ l.counts.length ∧ kk = l.counts.length - k ∧ St w0 w (OB ++ (FB ++ ((b3, blk 26 (l.cells p)) :: F)))) (l.counts.length) ?_ ?_
    ·
     exact ⟨0, rfl, by omega, by omega, hs⟩
    ·
     intro k vs μ w35 hI K34 hN33
     obtain ⟨k, rfl, hka, rfl, hs⟩ := hI
     generalize hsk : soR bt ((felt l.bunches)[i]'hi2) 0 (l.counts.take k) = sk
     refine w_seq (fun K37 hK36 => ?_)
     refine w_seq (fun K39 hK38 => ?_)
     refine w_region ?_
     refine w_pure want_none (y_move (v := .int _ _) rfl rfl) rfl ?_
     refine w_pure want_none (y_fieldAddr (o := 2) (i := 2) Try.underlying26 rfl Try.sizeOf24 rfl rfl rfl) rfl ?_
     refine w_pure want_none (y_load1 Try.isAgg24 hs.drop.drop rfl rfl (show Ats _ _ _ _ [_] from Ats.part hbx 2 1)) rfl ?_
     refine w_pure want_none (y_lenS Try.underlying24 rfl rfl) rfl ?_
     refine w_pure want_none (y_lss rfl rfl rfl rfl) rfl ?_
     refine w_nil ?_
     refine q_then (hK38 _ _ ?_)
     refine w_cond rfl rfl (fun h40 => ?_) (fun h40 => ?_)
     ·
      try simp only [Bool.not_eq_true', Bool.not_eq_false', decide_eq_true_eq, decide_eq_false_iff_not, Int.not_lt, Int.not_le] at h40
      refine w_skip ?_
      refine q_then (hK36 _ _ ?_)
      refine w_seq (fun K42 hK41 => ?_)
      refine w_block ?_
      have hk2 : k < l.counts.length := by omega
      obtain ⟨by_, oy, hby, hy⟩ := sl_crows hm.c hk2
      have hcc := hok.count _ (List.getElem_mem hk2)
      have hp64 := pow64 hlb
      refine w_draw [] [(0, 0), (1, 0), (2, 0), (3, 0), (4, 2), (5, 0), (6, 0), (7, 1), (8, 0), (9, 0), (10, 1), (11, 0), (12, 0), (13, 0), (14, 1), (16, 0), (17, 1), (18, 0), (19, 0), (20, 0), (21, 1), (15, 2), (22, 0), (23, 0), (24, 0), (25, 0)] Try_mo (drawOK_of (by kernel_rfl)) hs (fun w43 hs44 => ?_)
      refine d_any rfl want_none rfl (fun _ => (y_move (v := .bool _) rfl rfl)) ?_
      refine d_any rfl want_none rfl (fun _ => (y_move (v := .bool _) rfl rfl)) ?_
      refine d_split (fun h45 => ?_) (fun h45 => ?_)
      ·
       subst h45
       refine d_any rfl (want_yes rfl rfl rfl) rfl (fun _ => (y_move (v := .slice _ _ _) rfl rfl)) ?_
       refine d_any rfl (want_yes rfl rfl rfl) rfl (fun _ => (y_move (v := .int _ _) rfl rfl)) ?_
       refine d_eff rfl ?_
       refine w_call (want_yes rfl rfl rfl) Try.call43 rfl rfl rfl rfl (c43 _ _ bt hbl hbs.cons.app.app _ hs44) ?_
       rintro _ w47 ⟨rfl, hs48⟩
       refine w_nil ?_
       refine qn ⟨hs48, ?_⟩
       refine d_any rfl (want_yes rfl rfl rfl) rfl (fun _ => (y_move (v := .bool _) rfl rfl)) ?_
       refine d_split (fun h49 => ?_) (fun h49 => ?_)
       ·
        try simp only [Bool.not_eq_true', Bool.not_eq_false', decide_eq_true_eq, decide_eq_false_iff_not, Int.not_lt, Int.not_le] at h49
        refine d_skip rfl rfl rfl rfl ?_
        refine d_skip1 rfl rfl rfl rfl hs48 ?_
        refine d_skip rfl rfl rfl rfl ?_
        refine d_skip rfl rfl rfl rfl ?_
        refine d_skip1 rfl rfl rfl rfl hs48 ?_
        refine d_skip rfl rfl rfl rfl ?_
        refine d_skip rfl rfl rfl rfl ?_
        refine d_skip rfl rfl rfl rfl ?_
        refine d_skip1 rfl rfl rfl rfl hs48 ?_
        refine d_skip rfl rfl rfl rfl ?_
        refine d_skip1 rfl rfl rfl rfl hs48 ?_
        refine d_skip rfl rfl rfl rfl ?_
        refine d_skip rfl rfl rfl rfl ?_
        refine d_skip rfl rfl rfl rfl ?_
        refine d_skip1 rfl rfl rfl rfl hs48 ?_
        refine d_eff rfl ?_
        refine w_skipop rfl rfl rfl ?_
        refine w_nil ?_
        refine qn ⟨hs48, ?_⟩
        refine d_skip rfl rfl rfl rfl ?_
        refine d_any rfl (want_yes rfl rfl rfl) rfl (fun _ => (y_pickT (v := _) rfl rfl rfl rfl)) ?_
        refine d_any rfl want_none rfl (fun _ => (y_pickT (v := .bool _) rfl rfl rfl rfl)) ?_
        refine d_any rfl want_none rfl (fun _ => (y_assign (v := .bool _) rfl rfl)) ?_
        refine d_nil ?_
        refine q_blk_normal ?_
        refine q_then (hK41 _ _ ?_)
        refine w_region ?_
        refine w_pure want_none (y_move (v := .int _ _) rfl rfl) rfl ?_
        refine w_pure want_none (y_add rfl rfl rfl rfl (by omega) (by omega)) rfl ?_
        refine w_pure want_none (y_assign (v := .int _ _) rfl rfl) rfl ?_
        refine w_nil ?_
        refine q_then (hN33 _ _ (Nx.intro (l.counts.length - (k + 1)) (by omega) (by repeat (first | exact agree_mix | refine agree_upd rfl ?_ | refine agree_updL rfl ?_ _ | refine agree_mixin rfl ?_)) ?_))
        first
          | exact ⟨k + 1, bi2 (by rw [soR_take hk2, hsk, (by assumption : hasI bt (k : Int) = true)]; rfl) rfl, by omega, rfl, hs48⟩
          | exact ⟨k + 1, bi2 (by rw [soR_take hk2, hsk, (by assumption : hasI bt (k : Int) = false)]; rfl) rfl, by omega, rfl, hs48⟩
          | exact ⟨k + 1, bi2 (by rw [soR_take hk2, hsk]; rfl) rfl, by omega, rfl, hs48⟩
       ·
        try simp only [Bool.not_eq_true', Bool.not_eq_false', decide_eq_true_eq, decide_eq_false_iff_not, Int.not_lt, Int.not_le] at h49
        refine d_any rfl (want_yes rfl rfl rfl) rfl (fun _ => (y_fieldAddr (o := 2) (i := 2) Try.underlying26 rfl Try.sizeOf24 rfl rfl rfl)) ?_
        refine d_take rfl (want_yes rfl rfl rfl) rfl hs48 (fun _ hq => (yd_slice hby (y_load1 Try.isAgg24 hq.drop.drop rfl rfl (show Ats _ _ _ _ [_] from Ats.part hbx 2 1)))) ?_
        refine d_any rfl (want_yes rfl rfl rfl) rfl (fun _ => (y_move (v := .int _ _) rfl rfl)) ?_
        refine d_any rfl (want_yes rfl rfl rfl) rfl (fun _ => (y_indexS Try.underlying24 Try.sizeOf51 rfl rfl rfl rfl (i := _) rfl (by omega))) ?_
        refine d_take rfl (want_yes rfl rfl rfl) rfl hs48 (fun _ hq => (y_loadN (vs := [_, _]) Try.isAgg51 Try.sizeOf51 hq.drop.drop.tail rfl rfl hy)) ?_
        refine d_any rfl (want_yes rfl rfl rfl) rfl (fun _ => (y_move (v := .slice _ _ _) rfl rfl)) ?_
        refine d_any rfl (want_yes rfl rfl rfl) rfl (fun _ => (y_move (v := .int _ _) rfl rfl)) ?_
        refine d_any rfl (want_yes rfl rfl rfl) rfl (fun _ => (y_indexS Try.underlying64 Try.sizeOf37 rfl rfl rfl rfl (i := _) rfl (by omega))) ?_
        refine d_take rfl (want_yes rfl rfl rfl) rfl hs48 (fun _ hq => (y_load1 Try.isAgg37 hq.drop rfl rfl hx)) ?_
        refine d_any rfl (want_yes rfl rfl rfl) rfl (fun _ => (y_fieldAddr (o := 2) (i := 2) Try.underlying26 rfl Try.sizeOf24 rfl rfl rfl)) ?_
        refine d_take rfl (want_yes rfl rfl rfl) rfl hs48 (fun _ hq => (yd_slice hby (y_load1 Try.isAgg24 hq.drop.drop rfl rfl (show Ats _ _ _ _ [_] from Ats.part hbx 2 1)))) ?_
        refine d_any rfl (want_yes rfl rfl rfl) rfl (fun _ => (y_move (v := .int _ _) rfl rfl)) ?_
        refine d_any rfl (want_yes rfl rfl rfl) rfl (fun _ => (y_indexS Try.underlying24 Try.sizeOf51 rfl rfl rfl rfl (i := _) rfl (by omega))) ?_
        refine d_any rfl (want_yes rfl rfl rfl) rfl (fun _ => (y_fieldAddr (o := 1) (i := 1) Try.underlying51 rfl Try.sizeOf3 rfl rfl rfl)) ?_
        refine d_take rfl (want_yes rfl rfl rfl) rfl hs48 (fun _ hq => (y_load1 Try.isAgg3 hq.drop.drop.tail rfl rfl (show Ats _ _ _ _ [_] from Ats.part hy 1 1))) ?_
        refine d_eff rfl ?_
        refine w_call (want_yes rfl rfl rfl) Try.call93 rfl rfl rfl rfl (c93 (l.counts[k]'hk2) (by omega) _ _ ((felt l.bunches)[i]'hi2) (by omega) (fun z hz => by have := hin.2 z hz; omega) hsx0.top.app hs48) ?_
        rintro _ w51 ⟨rfl, hs52⟩
        refine w_nil ?_
        refine qn ⟨hs52, ?_⟩
        refine d_any rfl (want_yes rfl rfl rfl) rfl (fun _ => (y_eql rfl rfl rfl rfl)) ?_
        refine d_any rfl (want_yes rfl rfl rfl) rfl (fun _ => (y_pickF (v := .bool _) rfl rfl rfl rfl)) ?_
        refine d_any rfl want_none rfl (fun _ => (y_pickT (v := .bool _) rfl rfl rfl rfl)) ?_
        refine d_any rfl want_none rfl (fun _ => (y_assign (v := .bool _) rfl rfl)) ?_
        refine d_nil ?_
        refine q_blk_normal ?_
        refine q_then (hK41 _ _ ?_)
        refine w_region ?_
        refine w_pure want_none (y_move (v := .int _ _) rfl rfl) rfl ?_
        refine w_pure want_none (y_add rfl rfl rfl rfl (by omega) (by omega)) rfl ?_
        refine w_pure want_none (y_assign (v := .int _ _) rfl rfl) rfl ?_
        refine w_nil ?_
        refine q_then (hN33 _ _ (Nx.intro (l.counts.length - (k + 1)) (by omega) (by repeat (first | exact agree_mix | refine agree_upd rfl ?_ | refine agree_updL rfl ?_ _ | refine agree_mixin rfl ?_)) ?_))
        first
          | exact ⟨k + 1, bi2 (by rw [soR_take hk2, hsk, (by assumption : hasI bt (k : Int) = true)]; rfl) rfl, by omega, rfl, hs52⟩
          | exact ⟨k + 1, bi2 (by rw [soR_take hk2, hsk, (by assumption : hasI bt (k : Int) = false)]; rfl) rfl, by omega, rfl, hs52⟩
          | exact ⟨k + 1, bi2 (by rw [soR_take hk2, hsk]; rfl) rfl, by omega, rfl, hs52⟩
      ·
       subst h45
       refine d_skip rfl rfl rfl rfl ?_
       refine d_skip rfl rfl rfl rfl ?_
       refine d_eff rfl ?_
       refine w_skipop rfl rfl rfl ?_
       refine w_nil ?_
       refine qn ⟨hs44, ?_⟩
       refine d_skip rfl rfl rfl rfl ?_
       refine d_skip' rfl rfl rfl rfl ?_
       refine d_skip1' rfl rfl rfl rfl hs44 ?_
       refine d_skip' rfl rfl rfl rfl ?_
       refine d_skip' rfl rfl rfl rfl ?_
       refine d_skip1' rfl rfl rfl rfl hs44 ?_
       refine d_skip' rfl rfl rfl rfl ?_
       refine d_skip' rfl rfl rfl rfl ?_
       refine d_skip' rfl rfl rfl rfl ?_
       refine d_skip1' rfl rfl rfl rfl hs44 ?_
       refine d_skip' rfl rfl rfl rfl ?_
       refine d_skip1' rfl rfl rfl rfl hs44 ?_
       refine d_skip' rfl rfl rfl rfl ?_
       refine d_skip' rfl rfl rfl rfl ?_
       refine d_skip' rfl rfl rfl rfl ?_
       refine d_skip1' rfl rfl rfl rfl hs44 ?_
       refine d_eff rfl ?_
       refine w_skipop' rfl rfl rfl ?_
       refine w_nil ?_
       refine qn ⟨hs44, ?_⟩
       refine d_skip' rfl rfl rfl rfl ?_
       refine d_skip rfl rfl rfl rfl ?_
       refine d_any rfl want_none rfl (fun _ => (y_pickF (v := _) rfl rfl rfl rfl)) ?_
       refine d_any rfl want_none rfl (fun _ => (y_assign (v := .bool _) rfl rfl)) ?_
       refine d_nil ?_
       refine q_blk_normal ?_
       refine q_then (hK41 _ _ ?_)
       refine w_region ?_
       refine w_pure want_none (y_move (v := .int _ _) rfl rfl) rfl ?_
       refine w_pure want_none (y_add rfl rfl rfl rfl (by omega) (by omega)) rfl ?_
       refine w_pure want_none (y_assign (v := .int _ _) rfl rfl) rfl ?_
       refine w_nil ?_
       refine q_then (hN33 _ _ (Nx.intro (l.counts.length - (k + 1)) (by omega) (by repeat (first | exact agree_mix | refine agree_upd rfl ?_ | refine agree_updL rfl ?_ _ | refine agree_mixin rfl ?_)) ?_))
       first
         | exact ⟨k + 1, bi2 (by rw [soR_take hk2, hsk, (by assumption : hasI bt (k : Int) = true)]; rfl) rfl, by omega, rfl, hs44⟩
         | exact ⟨k + 1, bi2 (by rw [soR_take hk2, hsk, (by assumption : hasI bt (k : Int) = false)]; rfl) rfl, by omega, rfl, hs44⟩
         | exact ⟨k + 1, bi2 (by rw [soR_take hk2, hsk]; rfl) rfl, by omega, rfl, hs44⟩
     ·
      try simp only [Bool.not_eq_true', Bool.not_eq_false', decide_eq_true_eq, decide_eq_false_iff_not, Int.not_lt, Int.not_le] at h40
      refine w_exit ?_
      refine q_then_exit ?_
      refine q_then_exit ?_
      refine q_blk_this ?_
      refine q_then (hK29 _ _ ?_)
      refine w_seq (fun K54 hK53 => ?_)
      have hkn : k = l.counts.length := by omega
      subst hkn
      rw [List.take_length] at hsk
      refine w_region ?_
      refine w_pure want_none (y_move (v := .bool _) rfl rfl) rfl ?_
      refine w_nil ?_
      refine q_then (hK53 _ _ ?_)
      refine w_cond rfl rfl (fun h55 => ?_) (fun h55 => ?_)
      ·
       subst h55
       refine w_region ?_
       refine w_pure want_none (y_move (v := v) rfl rfl) rfl ?_
       refine w_pure want_none (y_move (v := .slice _ _ _) rfl rfl) rfl ?_
       refine w_pure want_none (y_move (v := .int _ _) rfl rfl) rfl ?_
       refine w_pure want_none (y_indexS Try.underlying64 Try.sizeOf37 rfl rfl rfl rfl (i := _) rfl (by omega)) rfl ?_
       refine w_pure want_none (y_load1 Try.isAgg37 hs.drop rfl rfl hx) rfl ?_
       refine w_bslice (ps := [(0, _)]) (pv := [(0, .slice _ _ _)]) (cs := [_]) want_none rfl rfl (fun w => Try_Wa_fb6 _ _ _ w) hs (fun b56 w57 hs58 => ?_)
       refine w_append (X := (_ :: [])) (B := OB) (rows := [[_]]) (sz := 1) (bytes := 24) want_none Try.underlying64 Try_info37 rfl rfl rfl rfl rfl rfl rfl rfl rfl hs58 hown (sl_own (i := 0) rfl (by simp) rfl) rfl (by simp) (by simp [Value.oneCell']) (by simp only [maxLen]; omega) (by omega) (fun v59 w60 B61 ho62 hs63 => ?_)
       replace hs63 := (show St _ _ (_ :: B61 ++ (FB ++ (_ :: F))) from hs63)
       refine w_pure want_none (y_assign (v := v59) rfl rfl) rfl ?_
       refine w_nil ?_
       refine q_blk_normal ?_
       refine q_then (hK25 _ _ ?_)
       refine w_region ?_
       refine w_pure want_none (y_move (v := .int _ _) rfl rfl) rfl ?_
       refine w_pure want_none (y_add rfl rfl rfl rfl (by omega) (by omega)) rfl ?_
       refine w_pure want_none (y_assign (v := .int _ _) rfl rfl) rfl ?_
       refine w_nil ?_
       refine q_then (hN17 _ _ (Nx.intro ((felt l.bunches).length - (i + 1)) (by omega) (by repeat (first | exact agree_mix | refine agree_upd rfl ?_ | refine agree_updL rfl ?_ _ | refine agree_mixin rfl ?_)) ?_))
       exact ⟨i + 1, _, _, _, rfl, by omega, rfl, by rw [filt_yes hi2 hsk]; exact own_el ho62, by rw [filt_yes hi2 hsk]; exact hel.snoc hsx0 hnx, hs63.tail⟩
      ·
       subst h55
       refine w_skip ?_
       refine q_blk_normal ?_
       refine q_then (hK25 _ _ ?_)
       refine w_region ?_
       refine w_pure want_none (y_move (v := .int _ _) rfl rfl) rfl ?_
       refine w_pure want_none (y_add rfl rfl rfl rfl (by omega) (by omega)) rfl ?_
       refine w_pure want_none (y_assign (v := .int _ _) rfl rfl) rfl ?_
       refine w_nil ?_
       refine q_then (hN17 _ _ (Nx.intro ((felt l.bunches).length - (i + 1)) (by omega) (by repeat (first | exact agree_mix | refine agree_upd rfl ?_ | refine agree_updL rfl ?_ _ | refine agree_mixin rfl ?_)) ?_))
       exact ⟨i + 1, v, OB, ws, rfl, by omega, rfl, by rw [filt_no hi2 hsk]; exact hown, by rw [filt_no hi2 hsk]; exact hel, hs⟩
   ·
    try simp only [Bool.not_eq_true', Bool.not_eq_false', decide_eq_true_eq, decide_eq_false_iff_not, Int.not_lt, Int.not_le] at h24
    refine w_exit ?_
    refine q_then_exit ?_
    refine q_then_exit ?_
    refine q_blk_this ?_
    refine q_then (hK13 _ _ ?_)
    refine w_seq (fun K65 hK64 => ?_)
    refine w_region ?_
    refine w_pure want_none (y_move (v := v) rfl rfl) rfl ?_
    refine w_pure want_none (y_assign (v := v) rfl rfl) rfl ?_
    refine w_nil ?_
    refine q_then (hK64 _ _ ?_)
    refine w_ret ?_
    refine q_ret (l := [.tmp 4]) (vs := [_]) rfl ⟨⟨rfl, show _ = (v : Value) from rfl⟩, trivial⟩ ?_
    have hin : i = (felt l.bunches).length := by omega
    subst hin
    rw [List.take_length] at hown hel
    obtain ⟨aO, cO, rfl, hslO⟩ := own_sl_id (w0 := w0) hown hel.1 FB
    exact ⟨OB ++ FB, ws, aO, cO, rfl, hslO, hel.app, kq_own (by rw [List.append_assoc]; exact hs)⟩

end Go.Proofs
/- Walks of this seat, printed by gen.py over the engine: what each function returns, in whatever world. No conditions but those of each contract. -/
set_option linter.unusedVariables false
set_option linter.unusedSimpArgs false
set_option maxRecDepth 20000
namespace Go.Proofs
open Go.Rt Go.Rt.Ha
attribute [local irreducible] WL WC Con Yd At Ats Sl Agree DW

theorem swp2 {w0 w : World} {a b : Nat × Obj} {F : List (Nat × Obj)} (h : St w0 w (a :: b :: F)) : St w0 w (b :: a :: F) := h.perm (perm_mid [a] [b] F)
theorem lin_of {w0 w : World} {L : List (Nat × Obj)} {l : Lot} {p : At3} (_hs : St w0 w L) (hm : LIn w0 L l p) : LIn w0 L l p := hm
theorem lin_more {w0 w : World} {i b cap : Nat} {cs : List Value} {L : List (Nat × Obj)} {l : Lot} {p : At3} {c : Count} (_hs : St w0 w L) (hm : LIn w0 L l p) (hi : L[i]? = some (b, blk 51 cs)) (h1 : l.counts.length + 1 ≤ cap) (h4 : cs.take ((l.counts.length + 1) * 2) = (crows (l.counts ++ [c])).flatten) (hc : l.counts.length + 1 ≤ 9223372036854775807) : LIn w0 L (moreL l c) ⟨p.ag, p.cg, p.ab, p.cb, some ⟨b, 0, none⟩, cap⟩ :=
  ⟨hm.g, hm.b, sl_own hi (crows_row _) (by show cs.take ((crows (l.counts ++ [c])).length * 2) = _; rw [show (crows (l.counts ++ [c])).length = l.counts.length + 1 by simp [crows]]; exact h4), hm.lg, hm.lb, (by show (l.counts ++ [c]).length ≤ _; simp; omega), hm.cg, hm.cb, (by show (l.counts ++ [c]).length ≤ cap; simp; omega), hm.ng⟩
theorem c44 {w0 w : World} {F : List (Nat × Obj)} (l : Lot) (p : At3) (hm : LIn w0 F l p)  (hs : St w0 w F) :
  Con Try.prog 44 [.agg (l.cells p).toArray] w fun v w' => v = .bool (decide ((check l).2.2 = 0 ∧ Ha.ways l 0 ≠ [])) ∧ St w0 w' F := by
  refine con_of_wc (n := 11) Try.func44 rfl rfl (Nat.le_of_ble_eq_true rfl) ?_
  refine w_seq (fun K2 hK1 => ?_)
  refine w_region ?_
  refine w_box (v := .agg #[.slice _ _ _, .slice _ _ _, .slice _ _ _]) (cs := [_, _, _]) want_none rfl rfl rfl hs (fun b3 w4 hs5 => ?_)
  refine w_pure want_none (y_assign (v := _) rfl rfl) rfl ?_
  refine w_nil ?_
  refine q_then (hK1 _ _ ?_)
  refine w_seq (fun K7 hK6 => ?_)
  refine w_region ?_
  refine w_pure want_none (y_loadN (vs := [_, _, _]) Try.isAgg26 Try.sizeOf26 hs5 rfl rfl (ats_own (i := 0) (vs := [_, _, _]) rfl rfl)) rfl ?_
  refine w_call want_none Try.call38 rfl rfl rfl rfl (c38 l _ hm.cons hs5) ?_
  rintro _ w9 ⟨rfl, hs10⟩
  refine w_pure want_none (y_move (v := .bool _) rfl rfl) rfl ?_
  refine w_split (fun h11 => ?_) (fun h11 => ?_)
  ·
   try simp only [Bool.not_eq_true', Bool.not_eq_false', decide_eq_true_eq, decide_eq_false_iff_not, Int.not_lt, Int.not_le] at h11
   have hck : (check l).2.2 = 0 := by assumption
   refine w_pure (want_yes rfl rfl rfl) (y_loadN (vs := [_, _, _]) Try.isAgg26 Try.sizeOf26 hs10 rfl rfl (ats_own (i := 0) (vs := [_, _, _]) rfl rfl)) rfl ?_
   refine w_call (want_yes rfl rfl rfl) Try.call45 rfl rfl rfl rfl ((by have h := c45 l p hm.cons (check_ok (by assumption)) none 0 [] (by simp) (Sl.nil _ _) hs10; rw [waysR_nil] at h; exact h)) ?_
   rintro _ w13 ⟨B, vs, a, c, rfl, hslB, helB, hs14⟩
   replace hs14 := (show St _ _ (B ++ (_ :: F)) from hs14)
   refine w_pure (want_yes rfl rfl rfl) (y_lenS Try.underlying64 rfl rfl) rfl ?_
   refine w_pure (want_yes rfl rfl rfl) (y_gtr rfl rfl rfl rfl) rfl ?_
   refine w_pure want_none (y_pickT (v := .bool _) rfl rfl rfl rfl) rfl ?_
   refine w_pure want_none (y_assign (v := .bool _) rfl rfl) rfl ?_
   refine w_nil ?_
   refine q_then (hK6 _ _ ?_)
   refine w_ret ?_
   refine q_ret (l := [.tmp 2]) (vs := [_]) rfl ⟨⟨rfl, show _ = (.bool _ : Value) from rfl⟩, trivial⟩ ?_
   first
     | exact ⟨congrArg Value.bool (by rw [Bool.eq_iff_iff]; simp only [decide_eq_true_eq, Bool.false_eq_true, false_iff]; exact fun h => (by assumption : ¬ (check l).2.2 = 0) h.1), hs14.drop.tail⟩
     | exact ⟨congrArg Value.bool (by rw [Bool.eq_iff_iff]; simp only [decide_eq_true_eq]; exact ⟨fun h => ⟨by assumption, fun e => by rw [e] at h; simp at h⟩, fun h => by have := List.length_pos_iff.2 h.2; omega⟩), hs14.drop.tail⟩
  ·
   try simp only [Bool.not_eq_true', Bool.not_eq_false', decide_eq_true_eq, decide_eq_false_iff_not, Int.not_lt, Int.not_le] at h11
   refine w_skipop rfl rfl rfl ?_
   refine w_skipop rfl rfl rfl ?_
   refine w_skipop rfl rfl rfl ?_
   refine w_skipop rfl rfl rfl ?_
   refine w_pure want_none (y_pickF (v := _) rfl rfl rfl rfl) rfl ?_
   refine w_pure want_none (y_assign (v := .bool _) rfl rfl) rfl ?_
   refine w_nil ?_
   refine q_then (hK6 _ _ ?_)
   refine w_ret ?_
   refine q_ret (l := [.tmp 2]) (vs := [_]) rfl ⟨⟨rfl, show _ = (.bool _ : Value) from rfl⟩, trivial⟩ ?_
   first
     | exact ⟨congrArg Value.bool (by rw [Bool.eq_iff_iff]; simp only [decide_eq_true_eq, Bool.false_eq_true, false_iff]; exact fun h => (by assumption : ¬ (check l).2.2 = 0) h.1), hs10.tail⟩
     | exact ⟨congrArg Value.bool (by rw [Bool.eq_iff_iff]; simp only [decide_eq_true_eq]; exact ⟨fun h => ⟨by assumption, fun e => by rw [e] at h; simp at h⟩, fun h => by have := List.length_pos_iff.2 h.2; omega⟩), hs10.tail⟩

end Go.Proofs
/- Plain law of the hand layer: the bunch to count next. No conditions. -/
set_option linter.unusedSimpArgs false
set_option linter.unusedVariables false
namespace Go.Rt.Ha
def NextS (ws : List (List Int)) (k : Nat) (s : Int × Int) : Prop :=
  (s.1 = -1 ∧ ∀ b, b < k → ¬ leftW b ws < ws.length) ∨ (∃ o, o < k ∧ s.1 = (o : Int) ∧ s.2 = leftW o ws ∧ leftW o ws < ws.length ∧ ∀ b, b < k → leftW b ws < ws.length → leftW o ws < leftW b ws ∨ (leftW b ws = leftW o ws ∧ o ≤ b))
theorem next_s (ws : List (List Int)) : ∀ k, NextS ws k (nextTo ws k)
  | 0 => .inl ⟨rfl, fun b h => by omega⟩
  | k + 1 => by
    have ih := next_s ws k
    simp only [nextTo]
    generalize nextTo ws k = s at ih
    rcases ih with ⟨h1, h2⟩ | ⟨o, h1, h2, h3, h4, h5⟩
    · by_cases hl : leftW k ws < ws.length
      · rw [if_pos ⟨hl, .inl (by omega)⟩]
        refine .inr ⟨k, by omega, rfl, rfl, hl, fun b hb hbl => ?_⟩
        by_cases e : b = k
        · subst e; exact .inr ⟨rfl, Nat.le_refl _⟩
        · exact absurd hbl (h2 b (by omega))
      · rw [if_neg fun h => hl h.1]
        refine .inl ⟨h1, fun b hb => ?_⟩
        by_cases e : b = k
        · subst e; exact hl
        · exact h2 b (by omega)
    · by_cases hc : leftW k ws < ws.length ∧ (s.1 < 0 ∨ leftW k ws < s.2)
      · rw [if_pos hc]
        have hlt : leftW k ws < leftW o ws := by
          rcases hc.2 with h | h
          · omega
          · rw [h3] at h; exact h
        refine .inr ⟨k, by omega, rfl, rfl, hc.1, fun b hb hbl => ?_⟩
        by_cases e : b = k
        · subst e; exact .inr ⟨rfl, Nat.le_refl _⟩
        · rcases h5 b (by omega) hbl with h | h
          · left; exact Int.lt_trans hlt h
          · left; rw [h.1]; exact hlt
      · rw [if_neg hc]
        refine .inr ⟨o, by omega, h2, h3, h4, fun b hb hbl => ?_⟩
        by_cases e : b = k
        · subst e
          have : ¬ leftW b ws < s.2 := fun h => hc ⟨hbl, .inr h⟩
          rw [h3] at this
          rcases Int.lt_trichotomy (leftW o ws) (leftW b ws) with h | h | h
          · exact .inl h
          · exact .inr ⟨h.symm, by omega⟩
          · exact absurd h this
        · exact h5 b (by omega) hbl
theorem counted_one (o : Nat) : ∀ (h : List Int) (i : Nat), counted (2 ^ o) i h = if i ≤ o then at_ h (o - i) else 0
  | [], i => by simp [counted, at_]
  | z :: h, i => by
    have hb : bit (2 ^ o) i = 1 ↔ o = i := by rw [bit_iff, Nat.testBit_two_pow, decide_eq_true_eq]
    rw [counted, counted_one o h (i + 1)]
    by_cases e : o = i
    · subst e
      rw [if_pos (hb.2 rfl), if_neg (by omega), if_pos (Nat.le_refl _), Nat.sub_self]
      show z + 0 = z
      omega
    · rw [if_neg fun h => e (hb.1 h)]
      by_cases e2 : i ≤ o
      · rw [if_pos e2, if_pos (by omega)]
        obtain ⟨d, hd⟩ : ∃ d, o - i = d + 1 := ⟨o - i - 1, by omega⟩
        rw [hd, show o - (i + 1) = d by omega]
        show 0 + h.getD d 0 = (z :: h).getD (d + 1) 0
        simp
      · rw [if_neg e2, if_neg (by omega)]; rfl
theorem ways_one {l : Lot} {o : Nat} {t : Int} : ways (moreL l ⟨2 ^ o, t⟩) 0 = (ways l 0).filter fun h => decide (at_ h o = t) := by
  unfold ways
  rw [List.filter_filter]
  congr 1
  funext h
  show soFrom 0 h 0 (l.counts ++ [⟨2 ^ o, t⟩]) = _
  have e : ((2 : Int) ^ o).toNat = 2 ^ o := by
    rw [show ((2 : Int) ^ o) = ((2 ^ o : Nat) : Int) by simp]; rfl
  rw [so_append]
  simp only [soFrom, e, counted_one, Nat.zero_le, if_true, Nat.sub_zero, Bool.and_true]
  simp [bit, Bool.and_comm]
theorem one_left {l : Lot} {o : Nat} {t : Int} (ht : 0 ≤ t ∧ t ≤ 12) : ((ways (moreL l ⟨2 ^ o, t⟩) 0).length : Int) ≤ leftW o (ways l 0) := by
  have h1 := (most_iff (b := o) (ws := ways l 0) (x := leftW o (ways l 0)) 13).1 (Int.le_refl _)
  have h2 := h1.2 t.toNat (by omega)
  rw [show ((t.toNat : Nat) : Int) = t by omega] at h2
  rw [ways_one]
  exact h2
theorem one_span {l : Lot} {o : Nat} {t : Int} (hw : ways (moreL l ⟨2 ^ o, t⟩) 0 ≠ []) : spanR o (ways (moreL l ⟨2 ^ o, t⟩) 0) = (t, t) := by
  have hf := span_facts (b := o) hw
  have hall : ∀ h ∈ ways (moreL l ⟨2 ^ o, t⟩) 0, at_ h o = t := by
    intro h hh
    rw [ways_one] at hh
    simpa using (List.mem_filter.1 hh).2
  obtain ⟨x, hx, ex⟩ := hf.lo
  obtain ⟨y, hy, ey⟩ := hf.hi
  have e1 := hall x hx
  have e2 := hall y hy
  exact Prod.ext (by rw [← ex, e1]) (by rw [← ey, e2])
end Go.Rt.Ha
/- Plain law of the hand layer: ways are told once each. No conditions. -/
set_option linter.unusedSimpArgs false
set_option linter.unusedVariables false
namespace Go.Rt.Ha
theorem at_ext {a b : List Int} (hl : a.length = b.length) (h : ∀ i, i < a.length → at_ a i = at_ b i) : a = b := by
  refine List.ext_getElem hl fun i h1 h2 => ?_
  have := h i h1
  unfold at_ at this
  simpa [List.getD, h1, h2] using this
/-- If no bunch tells ways apart there is one way. -/
theorem one_way {l : Lot} (hok : l.Ok) (hw : ways l 0 ≠ []) (h : ∀ b, b < l.bunches.length → ¬ leftW b (ways l 0) < (ways l 0).length) : (ways l 0).length = 1 := by
  have hsame : ∀ x ∈ ways l 0, ∀ y ∈ ways l 0, x = y := by
    intro x hx y hy
    have h1 := (felt_in _ _).1 (way_felt hx)
    have h2 := (felt_in _ _).1 (way_felt hy)
    refine at_ext (by omega) fun b hb => ?_
    have hbl : b < l.bunches.length := by omega
    have h3 := h b hbl
    rw [left_span hw fun z hz => by have := way_at hok hz hbl; omega] at h3
    have hf := span_facts (b := b) hw
    have a1 := hf.all x hx
    have a2 := hf.all y hy
    clear hf
    omega
  have hn := ways_nodup l 0
  match hq : ways l 0, hw, hsame, hn with
  | [], hw, _, _ => exact absurd rfl hw
  | [a], _, _, _ => rfl
  | a :: b :: r, _, hsame, hn =>
    have e := hsame a (.head _) b (.tail _ (.head _))
    rw [List.nodup_cons] at hn
    exact absurd (e ▸ .head _) hn.1
end Go.Rt.Ha
/- Plain law of the hand layer: an easier last grade, a wider bunch. No conditions. -/
set_option linter.unusedSimpArgs false
set_option linter.unusedVariables false
namespace Go.Rt.Ha
theorem ofG_weak {g g' : Grade} (h1 : g'.hands ≤ g.hands) (h2 : g.scars ≤ g'.scars) {h s : Int} : ∀ (gs : List Grade) (i : Int), 0 ≤ i → ofG (gs ++ [g']) i h s = -1 → ofG (gs ++ [g]) i h s = -1
  | [], i, hi, e => by
    simp only [List.nil_append, ofG] at e ⊢
    by_cases hc : g.hands ≤ h ∧ s ≤ g.scars
    · rw [if_pos (by omega)] at e; omega
    · rw [if_neg hc]
  | a :: gs, i, hi, e => by
    simp only [List.cons_append, ofG] at e ⊢
    split
    · rename_i hc; rw [if_pos hc] at e; exact e
    · rename_i hc; rw [if_neg hc] at e; exact ofG_weak h1 h2 gs (i + 1) (by omega) e
theorem could_weak {l l' : Lot} (hb : l'.bunches = l.bunches) (hof : ∀ h s, ofG l'.grades 0 h s = -1 → ofG l.grades 0 h s = -1) {ws : List (List Int)} {b : Nat} (h : couldR l' ws b (-1) = true) : couldR l ws b (-1) = true := by
  unfold couldR scarsOf bunchOf at *
  rw [hb] at h
  obtain ⟨x, hx, e⟩ := List.any_eq_true.1 h
  obtain ⟨s, hs, e⟩ := gradesL_mem.1 (hasI_mem.1 e)
  exact List.any_eq_true.2 ⟨x, hx, hasI_mem.2 (gradesL_mem.2 ⟨s, hs, hof _ _ e⟩)⟩
theorem must_weak {l l' : Lot} (hb : l'.bunches = l.bunches) (hof : ∀ h s, ofG l'.grades 0 h s = -1 → ofG l.grades 0 h s = -1) {ws : List (List Int)} {b : Nat} (hne : scarsOf l b ≠ []) (h : mustR l' ws b (-1) = true) : mustR l ws b (-1) = true := by
  unfold mustR at *
  rw [List.all_eq_true] at *
  intro x hx
  have h1 := h x hx
  have e : scarsOf l' b = scarsOf l b := by unfold scarsOf bunchOf; rw [hb]
  rw [e] at h1
  have h2 := (only_iff hne).1 h1
  exact (only_iff hne).2 fun s hs => hof _ _ (h2 s hs)
/-- Ways of a lot whose bunches are wider. -/
theorem wide_ways {l l' : Lot} (hc : l'.counts = l.counts) (hl : l'.bunches.length = l.bunches.length) (hw : ∀ i (h : i < l.bunches.length) (h' : i < l'.bunches.length), l'.bunches[i].lo ≤ l.bunches[i].lo ∧ l.bunches[i].hi ≤ l'.bunches[i].hi) {h : List Int} (hh : h ∈ ways l 0) : h ∈ ways l' 0 := by
  obtain ⟨h1, h2⟩ := List.mem_filter.1 hh
  refine List.mem_filter.2 ⟨?_, by rw [hc]; exact h2⟩
  have h3 := (felt_in _ _).1 h1
  refine (felt_in _ _).2 ⟨by omega, fun i hi => ?_⟩
  have h4 := h3.2 i (by omega)
  have h5 := hw i (by omega) hi
  omega
theorem wide_hands {l l' : Lot} (hc : (check l).2.2 = 0) (hc' : (check l').2.2 = 0) (hw : ways l 0 ≠ []) (hl : l'.bunches.length = l.bunches.length) (hs : ∀ h ∈ ways l 0, h ∈ ways l' 0) {b : Nat} (hb : b < l.bunches.length) :
    (handsP l b).2 = 0 ∧ (handsP l' b).2 = 0 ∧ (handsP l' b).1.1 ≤ (handsP l b).1.1 ∧ (handsP l b).1.2 ≤ (handsP l' b).1.2 := by
  have hw' : ways l' 0 ≠ [] := by
    obtain ⟨x, hx⟩ := List.exists_mem_of_ne_nil _ hw
    exact List.ne_nil_of_mem (hs x hx)
  have E := enter_zero hc hw (idx_fine (n := b) (b := l.bunches.length) (by omega))
  have E' := enter_zero hc' hw' (idx_fine (n := b) (b := l.bunches.length) (by omega))
  have h1 : handsP l b = (spanR b (ways l 0), 0) := by rw [← hands_same]; unfold handsR; rw [if_neg (by simp [E])]; rfl
  have h2 : handsP l' b = (spanR b (ways l' 0), 0) := by rw [← hands_same]; unfold handsR; rw [hl, if_neg (by simp [E'])]; rfl
  rw [h1, h2]
  have := span_sub (b := b) hs hw
  exact ⟨rfl, rfl, this.1, this.2⟩
end Go.Rt.Ha
/- Plain law of the hand layer: what Pick picks. No conditions. -/
set_option linter.unusedSimpArgs false
set_option linter.unusedVariables false
namespace Go.Rt.Ha
theorem pick_fine {l : Lot} {g many : Int} (hg : 0 ≤ g ∧ g < l.grades.length) (hm : 0 ≤ many ∧ many ≤ 72) : pickE l g many = 0 := by
  unfold pickE
  rw [if_neg (by rw [idx_fine hg]; simp), if_neg (by unfold out; simp only [Bool.or_eq_true, decide_eq_true_eq, not_or]; omega)]
theorem pick_do {l : Lot} {g : Nat} {many : Int} (hm : many ≤ 72) (c : Nat) : pickDo l g many c = true ↔ bitDiff c (fitTo l g (ways l 0) l.bunches.length) = 0 ∧ many ≤ leastR (ways l 0) (listL c l.bunches.length) := by
  unfold pickDo
  rw [Bool.and_eq_true, decide_eq_true_eq, List.all_eq_true, least_iff hm]
  simp
theorem pick_law {l : Lot} (hc : (check l).2.2 = 0) (hw : ways l 0 ≠ []) {g many : Int} (hg : 0 ≤ g ∧ g < l.grades.length) (hm : 0 ≤ many ∧ many ≤ 72) :
    (pickP l g many = ([], 9) ∧ ∀ c, c < 2 ^ l.bunches.length → pickDo l g.toNat many c = false) ∨
    (∃ b, b < 2 ^ l.bunches.length ∧ pickP l g many = (listL b l.bunches.length, 0) ∧ pickDo l g.toNat many b = true ∧ ∀ c, c < 2 ^ l.bunches.length → pickDo l g.toNat many c = true → before (listL c l.bunches.length) (listL b l.bunches.length) = false) := by
  have E := enter_zero hc hw (pick_fine (l := l) hg hm)
  have e2 : 1 <<< l.bunches.length = 2 ^ l.bunches.length := one_shl _
  have hf := few_min (pickDo l g.toNat many) l.bunches.length (1 <<< l.bunches.length)
  unfold pickP fewest
  rw [if_neg (by simp [E])]
  rw [e2] at hf ⊢
  generalize fewTo (pickDo l g.toNat many) l.bunches.length (2 ^ l.bunches.length) = s at hf
  obtain ⟨r, f⟩ := s
  cases f with
  | false => exact .inl ⟨by simp, (hf.no rfl).2⟩
  | true =>
    obtain ⟨b, hb, hd, h1, h2⟩ := hf.yes rfl
    simp only at h1 h2
    subst h1
    refine .inr ⟨b, hb, by simp, hd, fun c hc hdc => ?_⟩
    rcases h2 c hc hdc with h | h
    · rw [h]; exact Ls.before_irrefl _
    · exact Ls.before_asymm h
/-- What is fit is of a grade or a better one, in any truth. -/
theorem fit_grade {l : Lot} {g b : Nat} {ws : List (List Int)} {n : Nat} (hb : b < n) (hf : (fitTo l g ws n).testBit b = true) {t : List Int} (ht : t ∈ ws) {s : Int} (hs : s ∈ scarsOf l b) : 0 ≤ ofG l.grades 0 (at_ t b) s ∧ ofG l.grades 0 (at_ t b) s ≤ g := by
  have h1 := (fit_bit l g ws n hb).1 hf
  have h2 : (setW l b ws).testBit (ofG l.grades 0 (at_ t b) s + 1).toNat = true := by
    rw [setW_test]
    refine List.any_eq_true.2 ⟨t, ht, ?_⟩
    unfold gradesB
    rw [orG_test]
    exact List.any_eq_true.2 ⟨s, hs, by simp⟩
  have h3 := ofG_ge l.grades (at_ t b) s
  have h0 : setW l b ws &&& 1 = 1 ↔ (setW l b ws).testBit 0 = true := by
    have := bit_iff (setW l b ws) 0
    unfold bit at this
    rwa [Nat.shiftRight_zero] at this
  simp only [not_or] at h1
  constructor
  · refine Decidable.byContradiction fun hn => h1.1 (h0.2 ?_)
    rw [show (ofG l.grades 0 (at_ t b) s + 1).toNat = 0 by omega] at h2
    exact h2
  · refine Decidable.byContradiction fun hn => h1.2 (Nat.pos_of_ne_zero fun hz => ?_)
    have h4 := Nat.testBit_shiftRight (i := g + 2) (j := (ofG l.grades 0 (at_ t b) s + 1).toNat - (g + 2)) (setW l b ws)
    rw [hz, Nat.zero_testBit, show g + 2 + ((ofG l.grades 0 (at_ t b) s + 1).toNat - (g + 2)) = (ofG l.grades 0 (at_ t b) s + 1).toNat by omega, h2] at h4
    cases h4
end Go.Rt.Ha
/- Plain law of the hand layer: bunches told the other way round (begun). No conditions. -/
set_option linter.unusedSimpArgs false
set_option linter.unusedVariables false
namespace Go.Rt.Ha
theorem at_rev {h : List Int} {i : Nat} (hi : i < h.length) : at_ h.reverse i = at_ h (h.length - 1 - i) := by
  unfold at_
  simp only [List.getD]
  rw [List.getElem?_reverse hi]
theorem felt_rev {bs : List Bunch} {h : List Int} (hh : h ∈ felt bs) : h.reverse ∈ felt bs.reverse := by
  have h1 := (felt_in _ _).1 hh
  refine (felt_in _ _).2 ⟨by rw [List.length_reverse, List.length_reverse]; exact h1.1, fun i hi => ?_⟩
  rw [List.length_reverse] at hi
  rw [at_rev (by omega), List.getElem_reverse, h1.1]
  exact h1.2 _ (by omega)
theorem felt_rev_iff {bs : List Bunch} {h : List Int} : h ∈ felt bs.reverse ↔ h.reverse ∈ felt bs := by
  constructor
  · intro hh; have := felt_rev hh; rwa [List.reverse_reverse] at this
  · intro hh; have := felt_rev hh; rwa [List.reverse_reverse] at this
/-- Hands of some bunches, by index. -/
def cntF (bits : Nat) (h : List Int) : Nat → Int
  | 0 => 0
  | k + 1 => cntF bits h k + if bit bits k = 1 then at_ h k else 0
theorem cnt_snoc (bits : Nat) : ∀ (h : List Int) (i : Nat) (z : Int), counted bits i (h ++ [z]) = counted bits i h + if bit bits (i + h.length) = 1 then z else 0
  | [], i, z => by simp [counted]
  | y :: h, i, z => by
    rw [List.cons_append, counted, counted, cnt_snoc bits h (i + 1) z, List.length_cons, show i + 1 + h.length = i + (h.length + 1) by omega]
    omega
end Go.Rt.Ha
/- Plain law of the hand layer: what Next says. No conditions. -/
set_option linter.unusedSimpArgs false
set_option linter.unusedVariables false
namespace Go.Rt.Ha
theorem next_bad {l : Lot} (h : ¬ ((check l).2.2 = 0 ∧ ways l 0 ≠ [])) : (nextP l).2.2 ≠ 0 ∧ (nextP l).1 = 0 ∧ (nextP l).2.1 = 0 := by
  have he : enterE l 0 ≠ 0 := by
    unfold enterE
    by_cases hc : (check l).2.2 = 0
    · by_cases hw : ways l 0 = []
      · simp [hc, hw]
      · exact absurd ⟨hc, hw⟩ h
    · rw [if_pos hc]; exact hc
  unfold nextP
  rw [if_pos he]
  exact ⟨he, rfl, rfl⟩
structure NextF (l : Lot) (o : Nat) : Prop where
  lt : o < l.bunches.length
  is : nextP l = ((o : Int), leftW o (ways l 0), 0)
  lo : 1 ≤ leftW o (ways l 0)
  hi : leftW o (ways l 0) < (ways l 0).length
  few : ∀ b, b < l.bunches.length → leftW b (ways l 0) < (ways l 0).length → leftW o (ways l 0) < leftW b (ways l 0) ∨ (leftW b (ways l 0) = leftW o (ways l 0) ∧ o ≤ b)
theorem next_law {l : Lot} (hc : (check l).2.2 = 0) (hw : ways l 0 ≠ []) : (nextP l = (0, 0, 9) ∧ (ways l 0).length = 1) ∨ ∃ o, NextF l o := by
  have hok := check_ok hc
  have E := enter_zero hc hw (e := 0) rfl
  have hs := next_s (ways l 0) l.bunches.length
  unfold nextP
  rw [if_neg (by simp [E])]
  rcases hs with ⟨h1, h2⟩ | ⟨o, h1, h2, h3, h4, h5⟩
  · left
    rw [if_pos (by omega)]
    exact ⟨rfl, one_way hok hw h2⟩
  · right
    refine ⟨o, h1, ?_, ?_, h4, h5⟩
    · unfold nextP
      rw [if_neg (by simp [E]), if_neg (by omega), h2, h3]
    · obtain ⟨x, hx⟩ := List.exists_mem_of_ne_nil _ hw
      have h6 := way_at hok hx h1
      have h7 := one_left (l := l) (o := o) (t := at_ x o) (by omega)
      have h8 : x ∈ ways (moreL l ⟨2 ^ o, at_ x o⟩) 0 := by
        rw [ways_one]; exact List.mem_filter.2 ⟨hx, by simp⟩
      have := List.length_pos_of_mem h8
      omega
theorem next_one {l : Lot} {o : Nat} {t : List Int} (ht : t ∈ ways l 0) (hok : l.Ok) (ho : o < l.bunches.length) (hc : (check (moreL l ⟨2 ^ o, at_ t o⟩)).2.2 = 0) :
    handsP (moreL l ⟨2 ^ o, at_ t o⟩) o = ((at_ t o, at_ t o), 0) ∧ ((ways (moreL l ⟨2 ^ o, at_ t o⟩) 0).length : Int) ≤ leftW o (ways l 0) := by
  have h6 := way_at hok ht ho
  have h8 : t ∈ ways (moreL l ⟨2 ^ o, at_ t o⟩) 0 := by
    rw [ways_one]; exact List.mem_filter.2 ⟨ht, by simp⟩
  have hw := List.ne_nil_of_mem h8
  have E := enter_zero hc hw (idx_fine (n := o) (b := l.bunches.length) (by omega))
  refine ⟨?_, one_left (by omega)⟩
  rw [← hands_same]; unfold handsR
  rw [show (moreL l ⟨2 ^ o, at_ t o⟩).bunches.length = l.bunches.length from rfl, if_neg (by simp [E])]
  rw [show ((o : Int)).toNat = o from rfl, one_span hw]
theorem next_other {l : Lot} (hc : (check l).2.2 = 0) (hw : ways l 0 ≠ []) {o : Nat} (h : NextF l o) {b : Nat} (hb : b < l.bunches.length) :
    (handsP l b).2 = 0 ∧ ((handsP l b).1.1 = (handsP l b).1.2 ∨ leftW o (ways l 0) < leftW b (ways l 0) ∨ (leftW b (ways l 0) = leftW o (ways l 0) ∧ o ≤ b)) := by
  have hok := check_ok hc
  have E := enter_zero hc hw (idx_fine (n := b) (b := l.bunches.length) (by omega))
  have h1 : handsP l b = (spanR b (ways l 0), 0) := by rw [← hands_same]; unfold handsR; rw [if_neg (by simp [E])]; rfl
  rw [h1]
  refine ⟨rfl, ?_⟩
  by_cases e : leftW b (ways l 0) < (ways l 0).length
  · exact .inr (h.few b hb e)
  · left
    rw [left_span hw fun z hz => by have := way_at hok hz hb; omega] at e
    have hf := span_facts (b := b) hw
    obtain ⟨x, hx, ex⟩ := hf.lo
    have a1 := hf.all x hx
    show (spanR b (ways l 0)).1 = (spanR b (ways l 0)).2
    clear hf
    omega
theorem pow_list : ∀ o : Nat, (h : o < 6) → ([1, 2, 4, 8, 16, 32] : List Int)[o]'(by simpa using h) = 2 ^ o := by decide
end Go.Rt.Ha
/- Plain law of the hand layer: what Pick picks, and any other ones. No conditions. -/
set_option linter.unusedSimpArgs false
set_option linter.unusedVariables false
namespace Go.Rt.Ha
/-- Those of a list whose place is in a set. -/
def pkTo (F : List Int) (o : Nat) : Nat → List Int
  | 0 => []
  | i + 1 => pkTo F o i ++ if bit o i = 1 then [F.getD i 0] else []
theorem pk_app (F G : List Int) (o : Nat) : ∀ i, i ≤ F.length → pkTo (F ++ G) o i = pkTo F o i
  | 0, _ => rfl
  | i + 1, h => by
    rw [pkTo, pkTo, pk_app F G o i (by omega)]
    have e : (F ++ G).getD i 0 = F.getD i 0 := by simp only [List.getD]; rw [List.getElem?_append_left (by omega)]
    rw [e]
theorem pk_y {F : List Int} {o i : Nat} (hi : i < F.length) (h : bit o i = 1) : pkTo F o (i + 1) = pkTo F o i ++ [F[i]] := by
  rw [pkTo, if_pos h]; simp [List.getD, hi]
theorem pk_n {F : List Int} {o i : Nat} (h : ¬ bit o i = 1) : pkTo F o (i + 1) = pkTo F o i := by rw [pkTo, if_neg h, List.append_nil]
theorem pk_len (F : List Int) (o : Nat) : ∀ i, (pkTo F o i).length ≤ i
  | 0 => by simp [pkTo]
  | i + 1 => by
    have ih := pk_len F o i
    rw [pkTo, List.length_append]
    split
    · simp; omega
    · simp; omega
theorem pk_in {F : List Int} {o : Nat} {z : Int} : ∀ i, i ≤ F.length → z ∈ pkTo F o i → z ∈ F
  | 0, _, h => by simp [pkTo] at h
  | i + 1, hi, h => by
    rw [pkTo, List.mem_append] at h
    rcases h with h | h
    · exact pk_in i (by omega) h
    · split at h
      · rw [List.mem_singleton] at h
        have hi2 : i < F.length := by omega
        have e : F.getD i 0 = F[i] := by simp [List.getD, hi2]
        rw [h, e]; exact List.getElem_mem _
      · cases h
theorem bit_lt {c n : Nat} (h : c < 2 ^ n) : ¬ bit c n = 1 := by
  rw [bit_iff, Nat.testBit_lt_two_pow h]; simp
/-- Those that are picked of a set are a set within it. -/
theorem pk_set (s o : Nat) : ∀ n, ∃ c, c < 2 ^ n ∧ (∀ i, i < n → c.testBit i = true → s.testBit i = true) ∧ listL c n = pkTo (listL s n) o (listL s n).length
  | 0 => ⟨0, by simp, fun i h => by omega, rfl⟩
  | n + 1 => by
    obtain ⟨c, hc, h1, h2⟩ := pk_set s o n
    have hp : (2 : Nat) ^ (n + 1) = 2 ^ n + 2 ^ n := by rw [Nat.pow_succ]; omega
    have hkeep : ∀ i, i < n + 1 → c.testBit i = true → s.testBit i = true := by
      intro i hi hb
      by_cases e : i = n
      · subst e; rw [Nat.testBit_lt_two_pow hc] at hb; cases hb
      · exact h1 i (by omega) hb
    by_cases hs : bit s n = 1
    · rw [listL_y hs, List.length_append, List.length_singleton]
      by_cases ho : bit o (listL s n).length = 1
      · refine ⟨c + 2 ^ n, by omega, ?_, ?_⟩
        · intro i hi hb
          by_cases e : i = n
          · subst e; exact (bit_iff _ _).1 hs
          · refine h1 i (by omega) ?_
            rw [Nat.add_comm, Nat.testBit_two_pow_add_gt (by omega)] at hb
            exact hb
        · have hm : (c + 2 ^ n) % 2 ^ n = c := by rw [Nat.add_mod_right, Nat.mod_eq_of_lt hc]
          have hb : bit (c + 2 ^ n) n = 1 := by
            rw [bit_iff, Nat.add_comm, Nat.testBit_two_pow_add_eq, Nat.testBit_lt_two_pow hc]; rfl
          rw [listL_y hb, ← listL_mod (c + 2 ^ n) n n (Nat.le_refl _), hm, h2, pk_y (by simp) ho, pk_app _ _ _ _ (Nat.le_refl _)]
          simp
      · refine ⟨c, by omega, hkeep, ?_⟩
        rw [listL_n (bit_lt hc), h2, pk_n ho, pk_app _ _ _ _ (Nat.le_refl _)]
    · refine ⟨c, by omega, hkeep, ?_⟩
      rw [listL_n (bit_lt hc), listL_n hs, h2]
theorem diff_zero {c s n : Nat} (hc : c < 2 ^ n) (h : ∀ i, i < n → c.testBit i = true → s.testBit i = true) : bitDiff c s = 0 := by
  unfold bitDiff
  refine Nat.eq_of_testBit_eq fun i => ?_
  rw [Nat.testBit_and, Nat.testBit_xor, Nat.zero_testBit]
  by_cases hi : i < n
  · cases hb : c.testBit i with
    | false => rfl
    | true => rw [h i hi hb]; rfl
  · rw [Nat.testBit_lt_two_pow (Nat.lt_of_lt_of_le hc (Nat.pow_le_pow_right (by omega) (by omega)))]; rfl
theorem diff_bit {c s i : Nat} (h : bitDiff c s = 0) (hb : c.testBit i = true) : s.testBit i = true := by
  have h2 : (bitDiff c s).testBit i = false := by rw [h]; exact Nat.zero_testBit i
  unfold bitDiff at h2
  rw [Nat.testBit_and, Nat.testBit_xor, hb] at h2
  cases hs : s.testBit i with
  | true => rfl
  | false => rw [hs] at h2; cases h2
theorem listL_bit {b : Nat} {z : Int} : ∀ n, z ∈ listL b n → ∃ i : Nat, z = i ∧ i < n ∧ b.testBit i = true
  | 0, h => by simp [listL] at h
  | n + 1, h => by
    rw [listL, List.mem_append] at h
    rcases h with h | h
    · obtain ⟨i, h1, h2, h3⟩ := listL_bit n h
      exact ⟨i, h1, by omega, h3⟩
    · split at h
      · rename_i hb
        exact ⟨n, by simpa using h, by omega, (bit_iff _ _).1 hb⟩
      · cases h
theorem pick_bad {l : Lot} {g m : Int} (h : ¬ ((check l).2.2 = 0 ∧ ways l 0 ≠ [])) : (pickP l g m).2 ≠ 0 := by
  have he : enterE l (pickE l g m) ≠ 0 := by
    unfold enterE
    by_cases hc : (check l).2.2 = 0
    · rw [if_neg (by simp [hc])]
      by_cases hp : pickE l g m = 0
      · rw [if_neg (by simp [hp])]
        by_cases hw : ways l 0 = []
        · rw [if_pos hw]; decide
        · exact absurd ⟨hc, hw⟩ h
      · rw [if_pos hp]; exact hp
    · rw [if_pos hc]; exact hc
  unfold pickP
  rw [if_pos he]; exact he
structure PickF (l : Lot) (g : Nat) (m : Int) (oth own : List Int) : Prop where
  ri : rising l.bunches.length (-1) own = true
  len : own.length ≤ l.bunches.length
  few : m ≤ leastR (ways l 0) oth → before oth own = false
  of : ∀ z ∈ own, 0 ≤ z ∧ z < l.bunches.length ∧ ∀ t ∈ ways l 0, ∀ s, (bunchOf l z.toNat).slo ≤ s ∧ s ≤ (bunchOf l z.toNat).shi → 0 ≤ ofG l.grades 0 (at_ t z.toNat) s ∧ ofG l.grades 0 (at_ t z.toNat) s ≤ g
  sum : ∀ t ∈ ways l 0, m ≤ someOf t own
theorem listL_le' (b : Nat) : ∀ n, (listL b n).length ≤ n
  | 0 => by simp [listL]
  | n + 1 => by have := listL_le' b n; simp only [listL, List.length_append]; split <;> simp <;> omega
theorem picked_law {l : Lot} (hc : (check l).2.2 = 0) (hw : ways l 0 ≠ []) {g : Nat} {m : Int} (hg : g < l.grades.length) (hm : 0 ≤ m ∧ m ≤ 72) (o : Nat) :
    (pickP l g m = ([], 9) ∧ ¬ m ≤ leastR (ways l 0) (pkTo (fitR l (ways l 0) g l.bunches.length) o (fitR l (ways l 0) g l.bunches.length).length)) ∨
    (∃ own, pickP l g m = (own, 0) ∧ PickF l g m (pkTo (fitR l (ways l 0) g l.bunches.length) o (fitR l (ways l 0) g l.bunches.length).length) own) := by
  have hfit := fit_list hg (ways l 0) l.bunches.length l.bunches.length (Nat.le_refl _)
  obtain ⟨c, hc1, hc2, hc3⟩ := pk_set (fitTo l g (ways l 0) l.bunches.length) o l.bunches.length
  rw [← hfit] at hc3
  rw [← hc3]
  have hd := diff_zero hc1 hc2
  have hdo : m ≤ leastR (ways l 0) (listL c l.bunches.length) → pickDo l g m c = true := fun h => (pick_do hm.2 c).2 ⟨hd, h⟩
  rcases pick_law hc hw (g := (g : Int)) (many := m) (by omega) hm with ⟨h1, h2⟩ | ⟨b, hb1, hb2, hb3, hb4⟩
  · left
    refine ⟨h1, fun h => ?_⟩
    have := h2 c hc1
    rw [show ((g : Int)).toNat = g from rfl, hdo h] at this
    cases this
  · right
    rw [show ((g : Int)).toNat = g from rfl] at hb3 hb4
    obtain ⟨hb5, hb6⟩ := (pick_do hm.2 b).1 hb3
    refine ⟨_, hb2, ⟨list_rising b _ (Int.le_refl _), listL_le' b _, fun h => hb4 c hc1 (hdo h), fun z hz => ?_, fun t ht => (least_iff hm.2 _ _).1 hb6 t ht⟩⟩
    obtain ⟨i, rfl, hi, hbi⟩ := listL_bit _ hz
    refine ⟨by omega, by omega, fun t ht s hs => ?_⟩
    exact fit_grade hi (diff_bit hb5 hbi) ht (span_mem.2 hs)
end Go.Rt.Ha
/- Plain words of HandOrder: bits turned, sums the other way round, the ways of a lot told the other way round. No conditions. -/
set_option linter.unusedSimpArgs false
set_option linter.unusedVariables false
namespace Go.Rt.Ha
def trn (bits : Nat) : Nat → Nat
  | 0 => 0
  | k + 1 => 2 * trn bits k + if bit bits k = 1 then 1 else 0
theorem trn_test (bits : Nat) : ∀ n j, (trn bits n).testBit j = (decide (j < n) && bits.testBit (n - 1 - j))
  | 0, j => by simp [trn]
  | n + 1, 0 => by
    have h := bit_iff bits n
    rw [trn, Nat.testBit_zero]
    by_cases e : bit bits n = 1
    · rw [if_pos e, show n + 1 - 1 - 0 = n by omega, h.1 e]; simp
    · rw [if_neg e, show n + 1 - 1 - 0 = n by omega]
      have : bits.testBit n = false := by cases hb : bits.testBit n with | false => rfl | true => exact absurd (h.2 hb) e
      rw [this]; simp
  | n + 1, j + 1 => by
    have e : (2 * trn bits n + if bit bits n = 1 then 1 else 0) / 2 = trn bits n := by split <;> omega
    rw [trn, Nat.testBit_succ, e, trn_test bits n j, show n + 1 - 1 - (j + 1) = n - 1 - j by omega]
    congr 1
    simp
theorem trn_lt (bits : Nat) : ∀ n, trn bits n < 2 ^ n
  | 0 => by simp [trn]
  | n + 1 => by
    have ih := trn_lt bits n
    have hp : (2 : Nat) ^ (n + 1) = 2 ^ n + 2 ^ n := by rw [Nat.pow_succ]; omega
    rw [trn]
    split <;> omega
theorem trn_trn {b n : Nat} (h : b < 2 ^ n) : trn (trn b n) n = b := by
  refine Nat.eq_of_testBit_eq fun i => ?_
  rw [trn_test, trn_test]
  by_cases hi : i < n
  · rw [decide_eq_true hi, decide_eq_true (by omega), Bool.true_and, Bool.true_and]
    congr 1; omega
  · rw [decide_eq_false hi, Bool.false_and, Nat.testBit_lt_two_pow (Nat.lt_of_lt_of_le h (Nat.pow_le_pow_right (by omega) (by omega)))]
theorem trn_bit {b n j : Nat} (hj : j < n) : bit (trn b n) j = 1 ↔ bit b (n - 1 - j) = 1 := by
  rw [bit_iff, bit_iff, trn_test, decide_eq_true hj, Bool.true_and]
theorem trn_pos {b n : Nat} (h1 : 1 ≤ b) (h2 : b < 2 ^ n) : 1 ≤ trn b n := by
  refine Decidable.byContradiction fun h => ?_
  have e : trn b n = 0 := by omega
  have := trn_trn h2
  rw [e] at this
  have z : ∀ n, trn 0 n = 0 := by
    intro n
    induction n with
    | zero => rfl
    | succ n ih => rw [trn, ih]; simp [bit]
  rw [z] at this; omega
theorem counted_rev : ∀ (h : List Int) (b' b i : Nat), (∀ j, j < h.length → (bit b' j = 1 ↔ bit b (i + h.length - 1 - j) = 1)) → counted b' 0 h.reverse = counted b i h
  | [], _, _, _, _ => rfl
  | x :: t, b', b, i, hb => by
    have ih := counted_rev t b' b (i + 1) fun j hj => by
      have := hb j (by simp only [List.length_cons]; omega)
      simp only [List.length_cons] at this
      rw [this, show i + (t.length + 1) - 1 - j = i + 1 + t.length - 1 - j by omega]
    have h0 := hb t.length (by simp only [List.length_cons]; omega)
    simp only [List.length_cons] at h0
    rw [show i + (t.length + 1) - 1 - t.length = i by omega] at h0
    rw [List.reverse_cons, cnt_snoc, ih, counted, List.length_reverse, Nat.zero_add]
    by_cases e : bit b i = 1
    · rw [if_pos (h0.2 e), if_pos e]; omega
    · rw [if_neg (fun h => e (h0.1 h)), if_neg e]; omega
/-! ### Sums the other way round -/
def sumF (f : Nat → Int) : Nat → Int
  | 0 => 0
  | k + 1 => sumF f k + f k
theorem sumF_front (f : Nat → Int) : ∀ n, sumF f (n + 1) = f 0 + sumF (fun k => f (k + 1)) n
  | 0 => by simp [sumF]
  | n + 1 => by rw [sumF, sumF_front f n, sumF]; omega
theorem sumF_congr {f g : Nat → Int} : ∀ n, (∀ k, k < n → f k = g k) → sumF f n = sumF g n
  | 0, _ => rfl
  | n + 1, h => by rw [sumF, sumF, sumF_congr n fun k hk => h k (by omega), h n (by omega)]
theorem sumF_rev (f : Nat → Int) : ∀ n, sumF (fun k => f (n - 1 - k)) n = sumF f n
  | 0 => rfl
  | n + 1 => by
    rw [sumF_front, sumF]
    have e : sumF (fun k => f (n + 1 - 1 - (k + 1))) n = sumF (fun k => f (n - 1 - k)) n := sumF_congr n fun k hk => by rw [show n + 1 - 1 - (k + 1) = n - 1 - k by omega]
    rw [e, sumF_rev f n, show n + 1 - 1 - 0 = n by omega]
    omega
theorem len_sum (c : Nat) : ∀ n, ((listL c n).length : Int) = sumF (fun k => if bit c k = 1 then 1 else 0) n
  | 0 => rfl
  | n + 1 => by
    rw [listL, List.length_append, sumF, ← len_sum c n]
    split
    · simp
    · simp
theorem some_sum (h : List Int) (c : Nat) : ∀ n, someOf h (listL c n) = sumF (fun k => if bit c k = 1 then at_ h k else 0) n
  | 0 => rfl
  | n + 1 => by
    rw [listL, sumF, ← some_sum h c n]
    split
    · rw [someOf_snoc]; rfl
    · rw [List.append_nil]; omega
theorem sums_sum (l : Lot) (g : Nat) (h : List Int) : ∀ n, sumsTo l g h n = (sumF (fun k => if gradesB l (bunchOf l k) (at_ h k) = 2 <<< g then at_ h k else 0) n, sumF (fun k => if gradesB l (bunchOf l k) (at_ h k) = 2 <<< g ∨ bit (gradesB l (bunchOf l k) (at_ h k)) (g + 1) = 1 then at_ h k else 0) n)
  | 0 => rfl
  | n + 1 => by
    simp only [sumsTo, sums_sum l g h n, sumF]
    by_cases e : gradesB l (bunchOf l n) (at_ h n) = 2 <<< g
    · simp [e]
    · by_cases e2 : bit (gradesB l (bunchOf l n) (at_ h n)) (g + 1) = 1
      · simp [e, e2]
      · simp [e, e2]
/-! ### The lot, told the other way round -/
def backC (n : Nat) (c : Count) : Count := { c with bits := (trn c.bits.toNat n : Nat) }
def backL (l : Lot) : Lot := { l with bunches := l.bunches.reverse, counts := l.counts.map (backC l.bunches.length) }
theorem back_len (l : Lot) : (backL l).bunches.length = l.bunches.length := List.length_reverse
theorem back_so {n : Nat} {h : List Int} (hn : h.length = n) (but : Nat) : ∀ (cs : List Count) (i : Nat), soFrom but h.reverse i (cs.map (backC n)) = soFrom but h i cs
  | [], _ => rfl
  | c :: cs, i => by
    rw [List.map_cons, soFrom, soFrom, back_so hn but cs (i + 1)]
    have e : counted (backC n c).bits.toNat 0 h.reverse = counted c.bits.toNat 0 h := by
      show counted (((trn c.bits.toNat n : Nat) : Int)).toNat 0 h.reverse = _
      rw [Int.toNat_natCast]
      refine counted_rev h _ _ 0 fun j hj => ?_
      rw [trn_bit (by omega), show 0 + h.length - 1 - j = n - 1 - j by omega]
    rw [e]; rfl
theorem back_ways {l : Lot} {but : Nat} {h : List Int} : h ∈ ways (backL l) but ↔ h.reverse ∈ ways l but := by
  unfold ways
  rw [List.mem_filter, List.mem_filter]
  show h ∈ felt l.bunches.reverse ∧ soFrom but h 0 (l.counts.map (backC l.bunches.length)) = true ↔ _
  rw [felt_rev_iff]
  constructor
  · rintro ⟨h1, h2⟩
    have hl := ((felt_in _ _).1 h1).1
    have := back_so hl but l.counts 0
    rw [List.reverse_reverse] at this
    exact ⟨h1, by rw [← this]; exact h2⟩
  · rintro ⟨h1, h2⟩
    have hl := ((felt_in _ _).1 h1).1
    have := back_so hl but l.counts 0
    rw [List.reverse_reverse] at this
    exact ⟨h1, by rw [this]; exact h2⟩
theorem bunchE_any (a b : List Bunch) (x : Bunch) : bunchE a x = bunchE b x := rfl
theorem back_check {l : Lot} (hc : (check l).2.2 = 0) : (check (backL l)).2.2 = 0 := by
  obtain ⟨h1, h2, h3⟩ := check_iff.1 hc
  refine check_iff.2 ⟨h1, ?_, ?_⟩
  · rw [failE_iff] at h2 ⊢
    refine ⟨by rw [back_len]; exact h2.1, fun k hk => ?_⟩
    have hk2 : k < l.bunches.length := by rw [back_len] at hk; exact hk
    have e : (backL l).bunches[k] = l.bunches[l.bunches.length - 1 - k] := by
      simp only [backL, List.getElem_reverse]
    rw [e]
    exact h2.2 _ (by omega)
  · rw [back_len]
    rw [failE_iff] at h3 ⊢
    have hl : (backL l).counts.length = l.counts.length := List.length_map _
    refine ⟨by rw [hl]; exact h3.1, fun k hk => ?_⟩
    have hk2 : k < l.counts.length := by omega
    have h4 := countE_iff.1 (h3.2 k hk2)
    have e : (backL l).counts[k] = backC l.bunches.length l.counts[k] := by simp only [backL, List.getElem_map]
    rw [e]
    have hp : ((2 : Int) ^ l.bunches.length) = ((2 ^ l.bunches.length : Nat) : Int) := by simp
    have h5 := trn_lt l.counts[k].bits.toNat l.bunches.length
    have h6 := trn_pos (b := l.counts[k].bits.toNat) (n := l.bunches.length) (by omega) (by omega)
    refine countE_iff.2 ⟨?_, ?_, h4.2.2.1, h4.2.2.2⟩
    · show (1 : Int) ≤ ((trn _ _ : Nat) : Int)
      omega
    · show ((trn _ _ : Nat) : Int) ≤ 2 ^ l.bunches.length - 1
      omega
theorem nodup_rev : ∀ {ws : List (List Int)}, ws.Nodup → (ws.map List.reverse).Nodup
  | [], _ => by simp
  | x :: ws, hn => by
    rw [List.nodup_cons] at hn
    rw [List.map_cons, List.nodup_cons]
    refine ⟨fun h => ?_, nodup_rev hn.2⟩
    obtain ⟨y, hy, he⟩ := List.mem_map.1 h
    have : y = x := List.reverse_inj.1 he
    subst this
    exact hn.1 hy
theorem back_perm (l : Lot) (but : Nat) : (ways (backL l) but).Perm ((ways l but).map List.reverse) := by
  refine (List.perm_ext_iff_of_nodup (ways_nodup _ _) (nodup_rev (ways_nodup _ _))).2 fun h => ?_
  rw [back_ways, List.mem_map]
  constructor
  · intro hh; exact ⟨_, hh, List.reverse_reverse _⟩
  · rintro ⟨y, hy, rfl⟩; rw [List.reverse_reverse]; exact hy
/-- Two lots, either of which is the other one told the other way round. -/
structure Bk (l l' : Lot) : Prop where
  c : (check l).2.2 = 0
  c' : (check l').2.2 = 0
  len : l'.bunches.length = l.bunches.length
  cnt : l'.counts.length = l.counts.length
  gr : l'.grades = l.grades
  bo : ∀ b, b < l.bunches.length → bunchOf l' (l.bunches.length - 1 - b) = bunchOf l b
  w : ∀ but h, h ∈ ways l' but ↔ h.reverse ∈ ways l but
  n : ∀ but, (ways l' but).length = (ways l but).length
  o : ∀ b, b < l.bunches.length → ∀ v : Int, often (l.bunches.length - 1 - b) v (ways l' 0) = often b v (ways l 0)
theorem back_bk {l : Lot} (hc : (check l).2.2 = 0) : Bk l (backL l) where
  c := hc
  c' := back_check hc
  len := back_len l
  cnt := List.length_map _
  gr := rfl
  bo := fun b hb => by
    unfold bunchOf
    simp only [backL, List.getD]
    rw [List.getElem?_reverse (by omega), show l.bunches.length - 1 - (l.bunches.length - 1 - b) = b by omega]
  w := fun _ _ => back_ways
  n := fun but => by rw [(back_perm l but).length_eq, List.length_map]
  o := fun b hb v => by
    unfold often
    rw [((back_perm l 0).filter _).length_eq, List.filter_map, List.length_map]
    congr 2
    refine List.filter_congr fun h hh => ?_
    have hl := way_len hh
    show decide (at_ h.reverse _ = v) = decide (at_ h b = v)
    rw [at_rev (by omega), hl, show l.bunches.length - 1 - (l.bunches.length - 1 - b) = b by omega]
theorem Bk.symm {l l' : Lot} (h : Bk l l') : Bk l' l where
  c := h.c'
  c' := h.c
  len := h.len.symm
  cnt := h.cnt.symm
  gr := h.gr.symm
  bo := fun b hb => by
    rw [h.len] at hb ⊢
    have := h.bo (l.bunches.length - 1 - b) (by omega)
    rw [show l.bunches.length - 1 - (l.bunches.length - 1 - b) = b by omega] at this
    exact this.symm
  w := fun but x => by rw [h.w, List.reverse_reverse]
  n := fun but => (h.n but).symm
  o := fun b hb v => by
    rw [h.len] at hb ⊢
    have := h.o (l.bunches.length - 1 - b) (by omega) v
    rw [show l.bunches.length - 1 - (l.bunches.length - 1 - b) = b by omega] at this
    exact this.symm
end Go.Rt.Ha
/- Plain law of HandOrder: of a lot told the other way round all is the same. No conditions. -/
set_option linter.unusedSimpArgs false
set_option linter.unusedVariables false
namespace Go.Rt.Ha
theorem trn_64 (b : Nat) {i : Nat} (h : i ≤ 6) : trn b i < 64 := Nat.lt_of_lt_of_le (trn_lt b i) (Nat.pow_le_pow_right (n := 2) (by omega) h)
theorem Bk.wn {l l' : Lot} (h : Bk l l') (but : Nat) : ways l' but = [] ↔ ways l but = [] := by
  have := h.n but
  rw [← List.length_eq_zero_iff, ← List.length_eq_zero_iff, this]
theorem Bk.at {l l' : Lot} (h : Bk l l') {x : List Int} (hx : x ∈ ways l 0) {b : Nat} (hb : b < l.bunches.length) : at_ x.reverse (l.bunches.length - 1 - b) = at_ x b := by
  have hl := way_len hx
  rw [at_rev (by omega), hl, show l.bunches.length - 1 - (l.bunches.length - 1 - b) = b by omega]
theorem Bk.rev {l l' : Lot} (h : Bk l l') {x : List Int} (hx : x ∈ ways l 0) : x.reverse ∈ ways l' 0 := (h.w 0 _).2 (by rw [List.reverse_reverse]; exact hx)
theorem Bk.enter {l l' : Lot} (h : Bk l l') {e : Int} (he : e = 0) : enterE l' e = enterE l e := by
  subst he
  unfold enterE
  simp [h.c, h.c', h.wn 0]
theorem enter_empty {l : Lot} (hc : (check l).2.2 = 0) (hw : ways l 0 = []) {e : Int} (he : e = 0) : enterE l e = 8 := by
  subst he
  unfold enterE
  rw [if_neg (by simp [hc]), if_neg (by simp), if_pos hw]
theorem Bk.hands_le {l l' : Lot} (h : Bk l l') (hw : ways l 0 ≠ []) {b : Nat} (hb : b < l.bunches.length) : (spanR (l.bunches.length - 1 - b) (ways l' 0)).1 ≤ (spanR b (ways l 0)).1 ∧ (spanR b (ways l 0)).2 ≤ (spanR (l.bunches.length - 1 - b) (ways l' 0)).2 := by
  have hw' : ways l' 0 ≠ [] := fun q => hw ((h.wn 0).1 q)
  have f := span_facts (b := b) hw
  have f' := span_facts (b := l.bunches.length - 1 - b) hw'
  obtain ⟨x, hx, ex⟩ := f.lo
  obtain ⟨y, hy, ey⟩ := f.hi
  have h1 := f'.all _ (h.rev hx)
  have h2 := f'.all _ (h.rev hy)
  rw [h.at hx hb] at h1
  rw [h.at hy hb] at h2
  rw [← ex, ← ey]
  exact ⟨h1.1, h2.2⟩
theorem Bk.hands {l l' : Lot} (h : Bk l l') {b : Nat} (hb : b < l.bunches.length) : handsP l' ((l.bunches.length - 1 - b : Nat) : Int) = handsP l (b : Int) := by
  have hi : idxE (b : Int) l.bunches.length = 0 := idx_fine (by omega)
  have hi' : idxE ((l.bunches.length - 1 - b : Nat) : Int) l'.bunches.length = 0 := idx_fine (by rw [h.len]; omega)
  rw [← hands_same, ← hands_same]
  unfold handsR
  rw [hi, hi', h.enter rfl]
  by_cases hw : ways l 0 = []
  · rw [if_pos (by rw [enter_empty h.c hw rfl]; decide), if_pos (by rw [enter_empty h.c hw rfl]; decide)]
  · rw [if_neg (by simp [enter_zero h.c hw rfl]), if_neg (by simp [enter_zero h.c hw rfl])]
    have hw' : ways l' 0 ≠ [] := fun q => hw ((h.wn 0).1 q)
    have h1 := h.hands_le hw hb
    have h2 := h.symm.hands_le hw' (b := l.bunches.length - 1 - b) (by rw [h.len]; omega)
    rw [h.len, show l.bunches.length - 1 - (l.bunches.length - 1 - b) = b by omega] at h2
    show (spanR (l.bunches.length - 1 - b) (ways l' 0), (0 : Int)) = (spanR b (ways l 0), 0)
    congr 1
    exact Prod.ext (by omega) (by omega)
theorem Bk.could {l l' : Lot} (h : Bk l l') {b : Nat} (hb : b < l.bunches.length) {g : Int} (hg : couldR l (ways l 0) b g = true) : couldR l' (ways l' 0) (l.bunches.length - 1 - b) g = true := by
  unfold couldR at *
  obtain ⟨x, hx, e⟩ := List.any_eq_true.1 hg
  refine List.any_eq_true.2 ⟨x.reverse, h.rev hx, ?_⟩
  rw [h.gr, h.at hx hb]
  unfold scarsOf at *
  rw [h.bo b hb]; exact e
theorem Bk.could_eq {l l' : Lot} (h : Bk l l') {b : Nat} (hb : b < l.bunches.length) (g : Int) : couldR l' (ways l' 0) (l.bunches.length - 1 - b) g = couldR l (ways l 0) b g := by
  rw [Bool.eq_iff_iff]
  constructor
  · intro q
    have := h.symm.could (b := l.bunches.length - 1 - b) (by rw [h.len]; omega) q
    rw [h.len, show l.bunches.length - 1 - (l.bunches.length - 1 - b) = b by omega] at this
    exact this
  · exact h.could hb
theorem Bk.grade {l l' : Lot} (h : Bk l l') {b : Nat} (hb : b < l.bunches.length) : gradeP l' ((l.bunches.length - 1 - b : Nat) : Int) = gradeP l (b : Int) := by
  have hi : idxE (b : Int) l.bunches.length = 0 := idx_fine (by omega)
  have hi' : idxE ((l.bunches.length - 1 - b : Nat) : Int) l'.bunches.length = 0 := idx_fine (by rw [h.len]; omega)
  rw [← grade_same, ← grade_same]
  unfold gradeR
  rw [hi, hi', h.enter rfl]
  by_cases hw : ways l 0 = []
  · rw [if_pos (by rw [enter_empty h.c hw rfl]; decide), if_pos (by rw [enter_empty h.c hw rfl]; decide)]
  · rw [if_neg (by simp [enter_zero h.c hw rfl]), if_neg (by simp [enter_zero h.c hw rfl]), h.gr]
    congr 1
    show gradeTo l' (ways l' 0) (l.bunches.length - 1 - b) _ = gradeTo l (ways l 0) b _
    have : ∀ k, gradeTo l' (ways l' 0) (l.bunches.length - 1 - b) k = gradeTo l (ways l 0) b k := by
      intro k
      induction k with
      | zero => rfl
      | succ k ih => rw [gradeTo, gradeTo, ih, h.could_eq hb]
    exact this _
theorem Bk.set {l l' : Lot} (h : Bk l l') {b : Nat} (hb : b < l.bunches.length) : setW l' (l.bunches.length - 1 - b) (ways l' 0) = setW l b (ways l 0) := by
  refine Nat.eq_of_testBit_eq fun k => ?_
  rw [setW_test, setW_test, Bool.eq_iff_iff, List.any_eq_true, List.any_eq_true]
  have e : gradesB l' (bunchOf l' (l.bunches.length - 1 - b)) = gradesB l (bunchOf l b) := by
    funext v; unfold gradesB; rw [h.bo b hb, h.gr]
  rw [e]
  constructor
  · rintro ⟨x, hx, q⟩
    have hx2 := (h.w 0 x).1 hx
    refine ⟨_, hx2, ?_⟩
    have := h.at hx2 hb
    rw [List.reverse_reverse] at this
    rw [← this]; exact q
  · rintro ⟨x, hx, q⟩
    exact ⟨_, h.rev hx, by rw [h.at hx hb]; exact q⟩
theorem Bk.sums {l l' : Lot} (h : Bk l l') {x : List Int} (hx : x ∈ ways l 0) (g : Nat) : Ha.sums l' g x.reverse = Ha.sums l g x := by
  unfold Ha.sums
  rw [h.len, sums_sum, sums_sum]
  have e : ∀ k, k < l.bunches.length → gradesB l' (bunchOf l' k) (at_ x.reverse k) = gradesB l (bunchOf l (l.bunches.length - 1 - k)) (at_ x (l.bunches.length - 1 - k)) ∧ at_ x.reverse k = at_ x (l.bunches.length - 1 - k) := by
    intro k hk
    have h1 := h.bo (l.bunches.length - 1 - k) (by omega)
    have h2 := h.at hx (b := l.bunches.length - 1 - k) (by omega)
    rw [show l.bunches.length - 1 - (l.bunches.length - 1 - k) = k by omega] at h1 h2
    rw [h1, h2]
    exact ⟨by unfold gradesB; rw [h.gr], rfl⟩
  congr 1
  · rw [← sumF_rev (fun k => if gradesB l (bunchOf l k) (at_ x k) = 2 <<< g then at_ x k else 0)]
    refine sumF_congr _ fun k hk => ?_
    obtain ⟨e1, e2⟩ := e k hk
    rw [e2] at e1
    simp only [e2, e1]
  · rw [← sumF_rev (fun k => if gradesB l (bunchOf l k) (at_ x k) = 2 <<< g ∨ bit (gradesB l (bunchOf l k) (at_ x k)) (g + 1) = 1 then at_ x k else 0)]
    refine sumF_congr _ fun k hk => ?_
    obtain ⟨e1, e2⟩ := e k hk
    rw [e2] at e1
    simp only [e2, e1]
theorem Bk.tot_le {l l' : Lot} (h : Bk l l') (g : Nat) : (totalW l' g (ways l' 0)).1 ≤ (totalW l g (ways l 0)).1 ∧ (totalW l g (ways l 0)).2 ≤ (totalW l' g (ways l' 0)).2 := by
  have h1 := tot_facts l' g (ways l' 0) (72, 0)
  have h2 := tot_att l g (ways l 0) (72, 0)
  unfold totalW
  constructor
  · rcases h2.1 with e | ⟨x, hx, e⟩
    · rw [e]; exact h1.1
    · have := (h1.2.2 _ (h.rev hx)).1
      rw [h.sums hx] at this
      rw [← e]; exact this
  · rcases h2.2 with e | ⟨x, hx, e⟩
    · rw [e]; exact h1.2.1
    · have := (h1.2.2 _ (h.rev hx)).2
      rw [h.sums hx] at this
      rw [← e]; exact this
theorem Bk.total {l l' : Lot} (h : Bk l l') {g : Nat} (hg : g < l.grades.length) : totalP l' (g : Int) = totalP l (g : Int) := by
  have hi : idxE (g : Int) l.grades.length = 0 := idx_fine (by omega)
  unfold totalP
  rw [h.gr, hi, h.enter rfl]
  by_cases hw : ways l 0 = []
  · rw [if_pos (by rw [enter_empty h.c hw rfl]; decide), if_pos (by rw [enter_empty h.c hw rfl]; decide)]
  · rw [if_neg (by simp [enter_zero h.c hw rfl]), if_neg (by simp [enter_zero h.c hw rfl])]
    have h1 := h.tot_le g
    have h2 := h.symm.tot_le g
    congr 1
    show totalW l' g (ways l' 0) = totalW l g (ways l 0)
    exact Prod.ext (by omega) (by omega)
/-! ### What is picked -/
theorem len_trn (c n : Nat) : (listL (trn c n) n).length = (listL c n).length := by
  have h1 := len_sum (trn c n) n
  have h2 := len_sum c n
  rw [← sumF_rev (fun k => if bit c k = 1 then 1 else 0)] at h2
  have e : sumF (fun k => if bit (trn c n) k = 1 then (1 : Int) else 0) n = sumF (fun k => if bit c (n - 1 - k) = 1 then (1 : Int) else 0) n := sumF_congr _ fun k hk => by
    by_cases q : bit c (n - 1 - k) = 1
    · rw [if_pos q, if_pos ((trn_bit hk).2 q)]
    · rw [if_neg q, if_neg (fun z => q ((trn_bit hk).1 z))]
  omega
theorem some_trn {x : List Int} {n : Nat} (hx : x.length = n) (c : Nat) : someOf x.reverse (listL (trn c n) n) = someOf x (listL c n) := by
  rw [some_sum, some_sum, ← sumF_rev (fun k => if bit c k = 1 then at_ x k else 0)]
  refine sumF_congr _ fun k hk => ?_
  rw [at_rev (by omega), hx]
  by_cases q : bit c (n - 1 - k) = 1
  · rw [if_pos q, if_pos ((trn_bit hk).2 q)]
  · rw [if_neg q, if_neg (fun z => q ((trn_bit hk).1 z))]
theorem Bk.pick_do {l l' : Lot} (h : Bk l l') {g : Nat} {m : Int} (hm : m ≤ 72) {c : Nat} (hc : c < 2 ^ l.bunches.length) (hd : pickDo l g m c = true) : pickDo l' g m (trn c l.bunches.length) = true := by
  obtain ⟨h1, h2⟩ := (Ha.pick_do hm c).1 hd
  refine (Ha.pick_do hm _).2 ⟨?_, ?_⟩
  · rw [h.len]
    refine diff_zero (trn_lt c l.bunches.length) fun i hi hb => ?_
    rw [trn_test, decide_eq_true hi, Bool.true_and] at hb
    have h3 := (fit_bit l g (ways l 0) l.bunches.length (show l.bunches.length - 1 - i < l.bunches.length by omega)).1 (diff_bit h1 hb)
    refine (fit_bit l' g (ways l' 0) l.bunches.length hi).2 ?_
    have h4 := h.set (b := l.bunches.length - 1 - i) (by omega)
    rw [show l.bunches.length - 1 - (l.bunches.length - 1 - i) = i by omega] at h4
    rw [h4]; exact h3
  · rw [h.len]
    refine (least_iff hm _ _).2 fun x hx => ?_
    have hx2 := (h.w 0 x).1 hx
    have h3 := (least_iff hm _ _).1 h2 _ hx2
    have h4 := some_trn (way_len hx2) c
    rw [List.reverse_reverse] at h4
    rw [h4]; exact h3
theorem before_len {a b : List Int} (h : before a b = false) : b.length ≤ a.length := by
  unfold before at h
  rw [Bool.or_eq_false_iff, decide_eq_false_iff_not] at h
  omega
theorem Bk.pick_le {l l' : Lot} (h : Bk l l') (hw : ways l 0 ≠ []) {g : Nat} (hg : g < l.grades.length) {m : Int} (hm : 0 ≤ m ∧ m ≤ 72) (h0 : (pickP l (g : Int) m).2 = 0) : (pickP l' (g : Int) m).2 = 0 ∧ (pickP l' (g : Int) m).1.length ≤ (pickP l (g : Int) m).1.length := by
  have hw' : ways l' 0 ≠ [] := fun q => hw ((h.wn 0).1 q)
  rcases pick_law h.c hw (g := (g : Int)) (many := m) (by omega) hm with ⟨h1, _⟩ | ⟨b, h1, h2, h3, h4⟩
  · rw [h1] at h0; cases h0
  · have hd := h.pick_do hm.2 h1 h3
    rcases pick_law h.c' hw' (g := (g : Int)) (many := m) (by rw [h.gr]; omega) hm with ⟨_, k2⟩ | ⟨b', k1, k2, k3, k4⟩
    · have := k2 _ (by rw [h.len]; exact trn_lt b _)
      rw [show ((g : Int)).toNat = g from rfl] at this
      rw [show ((g : Int)).toNat = g from rfl] at hd
      rw [hd] at this; cases this
    · have := before_len (k4 _ (by rw [h.len]; exact trn_lt b _) hd)
      rw [k2, h2]
      refine ⟨rfl, ?_⟩
      rw [h.len, len_trn] at this
      rw [h.len]; exact this
theorem pick_e {l : Lot} (hc : (check l).2.2 = 0) (hw : ways l 0 ≠ []) {g : Nat} (hg : g < l.grades.length) {m : Int} (hm : 0 ≤ m ∧ m ≤ 72) : (pickP l (g : Int) m).2 = 0 ∨ pickP l (g : Int) m = ([], 9) := by
  rcases pick_law hc hw (g := (g : Int)) (many := m) (by omega) hm with ⟨h1, _⟩ | ⟨b, h1, h2, h3, h4⟩
  · exact .inr h1
  · exact .inl (by rw [h2])
theorem Bk.pick {l l' : Lot} (h : Bk l l') {g : Nat} (hg : g < l.grades.length) {m : Int} (hm : 0 ≤ m ∧ m ≤ 72) : (pickP l' (g : Int) m).1.length = (pickP l (g : Int) m).1.length ∧ (pickP l' (g : Int) m).2 = (pickP l (g : Int) m).2 := by
  have hp : pickE l (g : Int) m = 0 := pick_fine (by omega) hm
  have hp' : pickE l' (g : Int) m = 0 := pick_fine (by rw [h.gr]; omega) hm
  by_cases hw : ways l 0 = []
  · have hw' := (h.wn 0).2 hw
    have e1 : pickP l (g : Int) m = ([], 8) := by unfold pickP; rw [if_pos (by rw [enter_empty h.c hw hp]; decide), enter_empty h.c hw hp]
    have e2 : pickP l' (g : Int) m = ([], 8) := by unfold pickP; rw [if_pos (by rw [enter_empty h.c' hw' hp']; decide), enter_empty h.c' hw' hp']
    rw [e1, e2]; exact ⟨rfl, rfl⟩
  · have hw' : ways l' 0 ≠ [] := fun q => hw ((h.wn 0).1 q)
    have hg' : g < l'.grades.length := by rw [h.gr]; exact hg
    rcases pick_e h.c hw hg hm with e | e
    · have k := h.pick_le hw hg hm e
      have k' := h.symm.pick_le hw' hg' hm k.1
      exact ⟨by omega, by rw [k.1, e]⟩
    · rcases pick_e h.c' hw' hg' hm with e' | e'
      · have k' := h.symm.pick_le hw' hg' hm e'
        rw [e] at k'; exact absurd k'.1 (by decide)
      · rw [e, e']; exact ⟨rfl, rfl⟩
theorem Bk.wrong {l l' : Lot} (h : Bk l l') : wrongP l' = wrongP l := by
  unfold wrongP
  rw [if_neg (by simp [h.c']), if_neg (by simp [h.c]), h.cnt]
  have e : (fun b => !(ways l' b).isEmpty) = fun b => !(ways l b).isEmpty := by
    funext b
    congr 1
    rw [Bool.eq_iff_iff, List.isEmpty_iff, List.isEmpty_iff]
    exact h.wn b
  rw [e]
theorem Bk.left {l l' : Lot} (h : Bk l l') {b : Nat} (hb : b < l.bunches.length) : leftW (l.bunches.length - 1 - b) (ways l' 0) = leftW b (ways l 0) := by
  unfold leftW
  have : ∀ k, mostTo (l.bunches.length - 1 - b) (ways l' 0) k = mostTo b (ways l 0) k := by
    intro k
    induction k with
    | zero => rfl
    | succ k ih => rw [mostTo, mostTo, ih, h.o b hb]
  exact this 13
theorem Bk.next_le {l l' : Lot} (h : Bk l l') {o o' : Nat} (hN : NextF l o) (hN' : NextF l' o') : leftW o (ways l 0) ≤ leftW o' (ways l' 0) := by
  have h1 := h.symm.left hN'.lt
  have h2 := hN'.hi
  have h3 := hN'.lt
  rw [h.len] at h1 h3
  rw [h.n 0] at h2
  have := hN.few (l.bunches.length - 1 - o') (by omega) (by omega)
  omega
theorem Bk.next {l l' : Lot} (h : Bk l l') : (nextP l').2 = (nextP l).2 := by
  by_cases hw : ways l 0 = []
  · have hw' := (h.wn 0).2 hw
    have e1 : nextP l = (0, 0, 8) := by unfold nextP; rw [if_pos (by rw [enter_empty h.c hw rfl]; decide), enter_empty h.c hw rfl]
    have e2 : nextP l' = (0, 0, 8) := by unfold nextP; rw [if_pos (by rw [enter_empty h.c' hw' rfl]; decide), enter_empty h.c' hw' rfl]
    rw [e1, e2]
  · have hw' : ways l' 0 ≠ [] := fun q => hw ((h.wn 0).1 q)
    have hn := h.n 0
    rcases next_law h.c hw with ⟨e, e1⟩ | ⟨o, hN⟩
    · rcases next_law h.c' hw' with ⟨e', _⟩ | ⟨o', hN'⟩
      · rw [e, e']
      · have := hN'.lo; have := hN'.hi; omega
    · rcases next_law h.c' hw' with ⟨e', e1⟩ | ⟨o', hN'⟩
      · have := hN.lo; have := hN.hi; omega
      · have k1 := h.next_le hN hN'
        have k2 := h.symm.next_le hN' hN
        rw [hN.is, hN'.is]
        exact Prod.ext (by show leftW o' (ways l' 0) = leftW o (ways l 0); omega) rfl
end Go.Rt.Ha
