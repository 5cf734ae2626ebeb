/- Own texts of this claim, joined. No conditions. -/
import Derived.Test.YtiemgahjdgajmaaRows
import Derived.OpenShut
import Derived.Test.YtiemgahjdgajmaaHHandOrdera
import Derived.Test.YtiemgahjdgajmaaHHandOrderb
/- Walks of this seat, printed by gen.py over the engine: what each function returns, in whatever world. No conditions but those of each contract. -/
set_option linter.unusedVariables false
set_option linter.unusedSimpArgs false
set_option maxRecDepth 20000
namespace Go.Proofs
open Go.Rt Go.Rt.Ha
attribute [local irreducible] WL WC Con Yd At Ats Sl Agree DW
theorem Try_D_fb0 (x0 : Int) (x1 : Int) (w : World) : (Instr.buildSlice 37 2 [(0, .int .i64 x0), (1, .int .i64 x1)].toArray).run Try.prog w = .ok (.slice (some ⟨w.heap.size, 0, none⟩) 2 2) (w.alloc (Go.Rt.blk 3 [.int .i64 x0, .int .i64 x1])) := by kernel_rfl
theorem Try_D_fb1 (x0 : Int) (w : World) : (Instr.buildSlice 37 1 [(0, .int .i64 x0)].toArray).run Try.prog w = .ok (.slice (some ⟨w.heap.size, 0, none⟩) 1 1) (w.alloc (Go.Rt.blk 3 [.int .i64 x0])) := by kernel_rfl
theorem c58 {w0 w : World} {F : List (Nat × Obj)} (a : Option Addr) (c : Nat) (l : List Grade) (hl : l.length ≤ 9223372036854775807) (ha : Sl w0 F a 3 (grows l)) (fv : Value) (err : List Grade → Grade → Int)
    (hp : ∀ (i : Nat) (hi : i < l.length) (X : List (Nat × Obj)) (w : World), St w0 w (X ++ F) → FCon Try.prog fv [.int .i64 i, .agg l[i].cells.toArray] w fun v w' => v = .int .i64 (err (l.take i) l[i]) ∧ St w0 w' (X ++ F)) (hs : St w0 w F) :
  Con Try.prog 58 [.slice a l.length c, fv] w fun v w' => v = .tuple #[.int .i64 (firstE err [] 0 l).1, .int .i64 (firstE err [] 0 l).2] ∧ St w0 w' F := by
  refine con_of_wc (n := 25) Try.func58 rfl rfl (Nat.le_of_ble_eq_true rfl) ?_
  refine w_seq (fun K2 hK1 => ?_)
  refine w_region ?_
  refine w_pure want_none (y_assign (v := _) rfl rfl) rfl ?_
  refine w_pure want_none (y_assign (v := _) rfl rfl) rfl ?_
  refine w_nil ?_
  refine q_then (hK1 _ _ ?_)
  refine w_seq (fun K4 hK3 => ?_)
  refine w_seq (fun K6 hK5 => ?_)
  refine w_region ?_
  refine w_pure want_none (y_move (v := .slice _ _ _) rfl rfl) rfl ?_
  refine w_pure want_none (y_lenS Try.underlying22 rfl rfl) rfl ?_
  refine w_pure want_none (y_move (v := _) rfl rfl) rfl ?_
  refine w_nil ?_
  refine q_then (hK5 _ _ ?_)
  refine w_block ?_
  refine w_loop [4, 5, 6, 7, 8, 11, 12, 13, 14, 15, 16, 17, 18, 19, 20, 21, 22, 23, 24] [11] (fun k vs w => ∃ (i : Nat), vs = [.int .i64 i] ∧ i ≤ l.length ∧ k = l.length - i ∧ firstE err [] 0 l = firstE err (l.take i) i (l.drop i) ∧ St w0 w F) (l.length) ?_ ?_
  ·
   exact ⟨0, rfl, by omega, by omega, by simp, hs⟩
  ·
   intro k vs μ w9 hI K8 hN7
   obtain ⟨i, rfl, hia, rfl, hinv, hs⟩ := hI
   refine w_seq (fun K11 hK10 => ?_)
   refine w_region ?_
   refine w_pure want_none (y_lss rfl rfl rfl rfl) rfl ?_
   refine w_nil ?_
   refine q_then (hK10 _ _ ?_)
   refine w_seq (fun K13 hK12 => ?_)
   refine w_cond rfl rfl (fun h14 => ?_) (fun h14 => ?_)
   ·
    try simp only [Bool.not_eq_true', Bool.not_eq_false', decide_eq_true_eq, decide_eq_false_iff_not, Int.not_lt, Int.not_le] at h14
    refine w_skip ?_
    refine q_then (hK12 _ _ ?_)
    refine w_seq (fun K16 hK15 => ?_)
    refine w_block ?_
    refine w_seq (fun K18 hK17 => ?_)
    have hi2 : i < l.length := by omega
    obtain ⟨bx, ox, rfl, hx⟩ := sl_grows ha hi2
    refine w_region ?_
    refine w_pure want_none (y_move (v := .int _ _) rfl rfl) rfl ?_
    refine w_pure want_none (y_indexS Try.underlying22 Try.sizeOf79 rfl rfl rfl rfl (i := _) rfl (by omega)) rfl ?_
    refine w_pure want_none (y_loadN (vs := [_, _, _]) Try.isAgg79 Try.sizeOf79 hs rfl rfl hx) rfl ?_
    refine w_alloc (cs := [_, _, _]) want_none Try.zeroValue79 rfl hs (fun b19 w20 hs21 => ?_)
    refine w_pure want_none (y_assign (v := .int _ _) rfl rfl) rfl ?_
    refine w_store (i := 0) (v := .agg #[.string _, .int _ _, .int _ _]) (vs := [_, _, _]) want_none Try.sizeOf79 rfl rfl rfl rfl rfl (by simp [Value.oneCell']) hs21 rfl (Nat.le_of_ble_eq_true rfl) (fun w22 hs23 => ?_)
    refine w_nil ?_
    refine q_then (hK17 _ _ ?_)
    refine w_seq (fun K25 hK24 => ?_)
    refine w_region ?_
    refine w_pure want_none (y_move (v := fv) rfl rfl) rfl ?_
    refine w_pure want_none (y_move (v := .int _ _) rfl rfl) rfl ?_
    refine w_pure want_none (y_loadN (vs := [_, _, _]) Try.isAgg79 Try.sizeOf79 hs23 rfl rfl (ats_own (i := 0) (vs := [_, _, _]) rfl rfl)) rfl ?_
    refine w_callV want_none rfl rfl rfl rfl (hp i hi2 [_] _ hs23) ?_
    rintro _ w27 ⟨rfl, hs28⟩
    refine w_pure want_none (y_assign (v := .int _ _) rfl rfl) rfl ?_
    refine w_nil ?_
    refine q_then (hK24 _ _ ?_)
    refine w_seq (fun K30 hK29 => ?_)
    refine w_region ?_
    refine w_pure want_none (y_move (v := .int _ _) rfl rfl) rfl ?_
    refine w_pure want_none (y_neq rfl rfl rfl rfl) rfl ?_
    refine w_nil ?_
    refine q_then (hK29 _ _ ?_)
    refine w_cond rfl rfl (fun h31 => ?_) (fun h31 => ?_)
    ·
     try simp only [Bool.not_eq_true', Bool.not_eq_false', decide_eq_true_eq, decide_eq_false_iff_not, Int.not_lt, Int.not_le] at h31
     refine w_seq (fun K33 hK32 => ?_)
     refine w_region ?_
     refine w_pure want_none (y_move (v := .int _ _) rfl rfl) rfl ?_
     refine w_pure want_none (y_move (v := .int _ _) rfl rfl) rfl ?_
     refine w_pure want_none (y_assign (v := .int _ _) rfl rfl) rfl ?_
     refine w_pure want_none (y_assign (v := .int _ _) rfl rfl) rfl ?_
     refine w_nil ?_
     refine q_then (hK32 _ _ ?_)
     refine w_ret ?_
     refine q_blk_ret ?_
     refine q_then_ret ?_
     refine q_then_ret ?_
     refine q_blk_ret ?_
     refine q_then_ret ?_
     refine q_ret (l := [.tmp 4, .tmp 5]) (vs := [_, _]) rfl ⟨⟨rfl, show _ = (.int _ _ : Value) from rfl⟩, ⟨rfl, show _ = (.int _ _ : Value) from rfl⟩, trivial⟩ ?_
     first
       | (rw [hinv, firstE_stop hi2 (by assumption)]
          exact ⟨rfl, hs28.tail⟩)
       | (rw [hinv, firstE_end (by omega)]
          exact ⟨rfl, hs28⟩)
    ·
     try simp only [Bool.not_eq_true', Bool.not_eq_false', decide_eq_true_eq, decide_eq_false_iff_not, Int.not_lt, Int.not_le] at h31
     refine w_skip ?_
     refine q_blk_normal ?_
     refine q_then (hK15 _ _ ?_)
     refine w_region ?_
     refine w_pure want_none (y_add rfl rfl rfl rfl (by omega) (by omega)) rfl ?_
     refine w_pure want_none (y_move (v := .int _ _) rfl rfl) rfl ?_
     refine w_nil ?_
     refine q_then (hN7 _ _ (Nx.intro (l.length - (i + 1)) (by omega) (by repeat (first | exact agree_mix | refine agree_upd rfl ?_ | refine agree_updL rfl ?_ _ | refine agree_mixin rfl ?_)) ?_))
     exact ⟨i + 1, rfl, by omega, rfl, hinv.trans (firstE_step hi2 (by assumption)), hs28.tail⟩
   ·
    try simp only [Bool.not_eq_true', Bool.not_eq_false', decide_eq_true_eq, decide_eq_false_iff_not, Int.not_lt, Int.not_le] at h14
    refine w_exit ?_
    refine q_then_exit ?_
    refine q_then_exit ?_
    refine q_blk_this ?_
    refine q_then (hK3 _ _ ?_)
    refine w_seq (fun K35 hK34 => ?_)
    refine w_region ?_
    refine w_pure want_none (y_assign (v := _) rfl rfl) rfl ?_
    refine w_pure want_none (y_assign (v := _) rfl rfl) rfl ?_
    refine w_nil ?_
    refine q_then (hK34 _ _ ?_)
    refine w_ret ?_
    refine q_ret (l := [.tmp 4, .tmp 5]) (vs := [_, _]) rfl ⟨⟨rfl, show _ = (.int _ _ : Value) from rfl⟩, ⟨rfl, show _ = (.int _ _ : Value) from rfl⟩, trivial⟩ ?_
    first
      | (rw [hinv, firstE_stop hi2 (by assumption)]
         exact ⟨rfl, hs.tail⟩)
      | (rw [hinv, firstE_end (by omega)]
         exact ⟨rfl, hs⟩)

theorem c61 {w0 w : World} {F : List (Nat × Obj)} (a : Option Addr) (c : Nat) (l : List Bunch) (hl : l.length ≤ 9223372036854775807) (ha : Sl w0 F a 4 (brows l)) (fv : Value) (err : List Bunch → Bunch → Int)
    (hp : ∀ (i : Nat) (hi : i < l.length) (X : List (Nat × Obj)) (w : World), St w0 w (X ++ F) → FCon Try.prog fv [.int .i64 i, .agg l[i].cells.toArray] w fun v w' => v = .int .i64 (err (l.take i) l[i]) ∧ St w0 w' (X ++ F)) (hs : St w0 w F) :
  Con Try.prog 61 [.slice a l.length c, fv] w fun v w' => v = .tuple #[.int .i64 (firstE err [] 0 l).1, .int .i64 (firstE err [] 0 l).2] ∧ St w0 w' F := by
  refine con_of_wc (n := 25) Try.func61 rfl rfl (Nat.le_of_ble_eq_true rfl) ?_
  refine w_seq (fun K2 hK1 => ?_)
  refine w_region ?_
  refine w_pure want_none (y_assign (v := _) rfl rfl) rfl ?_
  refine w_pure want_none (y_assign (v := _) rfl rfl) rfl ?_
  refine w_nil ?_
  refine q_then (hK1 _ _ ?_)
  refine w_seq (fun K4 hK3 => ?_)
  refine w_seq (fun K6 hK5 => ?_)
  refine w_region ?_
  refine w_pure want_none (y_move (v := .slice _ _ _) rfl rfl) rfl ?_
  refine w_pure want_none (y_lenS Try.underlying23 rfl rfl) rfl ?_
  refine w_pure want_none (y_move (v := _) rfl rfl) rfl ?_
  refine w_nil ?_
  refine q_then (hK5 _ _ ?_)
  refine w_block ?_
  refine w_loop [4, 5, 6, 7, 8, 11, 12, 13, 14, 15, 16, 17, 18, 19, 20, 21, 22, 23, 24] [11] (fun k vs w => ∃ (i : Nat), vs = [.int .i64 i] ∧ i ≤ l.length ∧ k = l.length - i ∧ firstE err [] 0 l = firstE err (l.take i) i (l.drop i) ∧ St w0 w F) (l.length) ?_ ?_
  ·
   exact ⟨0, rfl, by omega, by omega, by simp, hs⟩
  ·
   intro k vs μ w9 hI K8 hN7
   obtain ⟨i, rfl, hia, rfl, hinv, hs⟩ := hI
   refine w_seq (fun K11 hK10 => ?_)
   refine w_region ?_
   refine w_pure want_none (y_lss rfl rfl rfl rfl) rfl ?_
   refine w_nil ?_
   refine q_then (hK10 _ _ ?_)
   refine w_seq (fun K13 hK12 => ?_)
   refine w_cond rfl rfl (fun h14 => ?_) (fun h14 => ?_)
   ·
    try simp only [Bool.not_eq_true', Bool.not_eq_false', decide_eq_true_eq, decide_eq_false_iff_not, Int.not_lt, Int.not_le] at h14
    refine w_skip ?_
    refine q_then (hK12 _ _ ?_)
    refine w_seq (fun K16 hK15 => ?_)
    refine w_block ?_
    refine w_seq (fun K18 hK17 => ?_)
    have hi2 : i < l.length := by omega
    obtain ⟨bx, ox, rfl, hx⟩ := sl_brows ha hi2
    refine w_region ?_
    refine w_pure want_none (y_move (v := .int _ _) rfl rfl) rfl ?_
    refine w_pure want_none (y_indexS Try.underlying23 Try.sizeOf81 rfl rfl rfl rfl (i := _) rfl (by omega)) rfl ?_
    refine w_pure want_none (y_loadN (vs := [_, _, _, _]) Try.isAgg81 Try.sizeOf81 hs rfl rfl hx) rfl ?_
    refine w_alloc (cs := [_, _, _, _]) want_none Try.zeroValue81 rfl hs (fun b19 w20 hs21 => ?_)
    refine w_pure want_none (y_assign (v := .int _ _) rfl rfl) rfl ?_
    refine w_store (i := 0) (v := .agg #[.int _ _, .int _ _, .int _ _, .int _ _]) (vs := [_, _, _, _]) want_none Try.sizeOf81 rfl rfl rfl rfl rfl (by simp [Value.oneCell']) hs21 rfl (Nat.le_of_ble_eq_true rfl) (fun w22 hs23 => ?_)
    refine w_nil ?_
    refine q_then (hK17 _ _ ?_)
    refine w_seq (fun K25 hK24 => ?_)
    refine w_region ?_
    refine w_pure want_none (y_move (v := fv) rfl rfl) rfl ?_
    refine w_pure want_none (y_move (v := .int _ _) rfl rfl) rfl ?_
    refine w_pure want_none (y_loadN (vs := [_, _, _, _]) Try.isAgg81 Try.sizeOf81 hs23 rfl rfl (ats_own (i := 0) (vs := [_, _, _, _]) rfl rfl)) rfl ?_
    refine w_callV want_none rfl rfl rfl rfl (hp i hi2 [_] _ hs23) ?_
    rintro _ w27 ⟨rfl, hs28⟩
    refine w_pure want_none (y_assign (v := .int _ _) rfl rfl) rfl ?_
    refine w_nil ?_
    refine q_then (hK24 _ _ ?_)
    refine w_seq (fun K30 hK29 => ?_)
    refine w_region ?_
    refine w_pure want_none (y_move (v := .int _ _) rfl rfl) rfl ?_
    refine w_pure want_none (y_neq rfl rfl rfl rfl) rfl ?_
    refine w_nil ?_
    refine q_then (hK29 _ _ ?_)
    refine w_cond rfl rfl (fun h31 => ?_) (fun h31 => ?_)
    ·
     try simp only [Bool.not_eq_true', Bool.not_eq_false', decide_eq_true_eq, decide_eq_false_iff_not, Int.not_lt, Int.not_le] at h31
     refine w_seq (fun K33 hK32 => ?_)
     refine w_region ?_
     refine w_pure want_none (y_move (v := .int _ _) rfl rfl) rfl ?_
     refine w_pure want_none (y_move (v := .int _ _) rfl rfl) rfl ?_
     refine w_pure want_none (y_assign (v := .int _ _) rfl rfl) rfl ?_
     refine w_pure want_none (y_assign (v := .int _ _) rfl rfl) rfl ?_
     refine w_nil ?_
     refine q_then (hK32 _ _ ?_)
     refine w_ret ?_
     refine q_blk_ret ?_
     refine q_then_ret ?_
     refine q_then_ret ?_
     refine q_blk_ret ?_
     refine q_then_ret ?_
     refine q_ret (l := [.tmp 4, .tmp 5]) (vs := [_, _]) rfl ⟨⟨rfl, show _ = (.int _ _ : Value) from rfl⟩, ⟨rfl, show _ = (.int _ _ : Value) from rfl⟩, trivial⟩ ?_
     first
       | (rw [hinv, firstE_stop hi2 (by assumption)]
          exact ⟨rfl, hs28.tail⟩)
       | (rw [hinv, firstE_end (by omega)]
          exact ⟨rfl, hs28⟩)
    ·
     try simp only [Bool.not_eq_true', Bool.not_eq_false', decide_eq_true_eq, decide_eq_false_iff_not, Int.not_lt, Int.not_le] at h31
     refine w_skip ?_
     refine q_blk_normal ?_
     refine q_then (hK15 _ _ ?_)
     refine w_region ?_
     refine w_pure want_none (y_add rfl rfl rfl rfl (by omega) (by omega)) rfl ?_
     refine w_pure want_none (y_move (v := .int _ _) rfl rfl) rfl ?_
     refine w_nil ?_
     refine q_then (hN7 _ _ (Nx.intro (l.length - (i + 1)) (by omega) (by repeat (first | exact agree_mix | refine agree_upd rfl ?_ | refine agree_updL rfl ?_ _ | refine agree_mixin rfl ?_)) ?_))
     exact ⟨i + 1, rfl, by omega, rfl, hinv.trans (firstE_step hi2 (by assumption)), hs28.tail⟩
   ·
    try simp only [Bool.not_eq_true', Bool.not_eq_false', decide_eq_true_eq, decide_eq_false_iff_not, Int.not_lt, Int.not_le] at h14
    refine w_exit ?_
    refine q_then_exit ?_
    refine q_then_exit ?_
    refine q_blk_this ?_
    refine q_then (hK3 _ _ ?_)
    refine w_seq (fun K35 hK34 => ?_)
    refine w_region ?_
    refine w_pure want_none (y_assign (v := _) rfl rfl) rfl ?_
    refine w_pure want_none (y_assign (v := _) rfl rfl) rfl ?_
    refine w_nil ?_
    refine q_then (hK34 _ _ ?_)
    refine w_ret ?_
    refine q_ret (l := [.tmp 4, .tmp 5]) (vs := [_, _]) rfl ⟨⟨rfl, show _ = (.int _ _ : Value) from rfl⟩, ⟨rfl, show _ = (.int _ _ : Value) from rfl⟩, trivial⟩ ?_
    first
      | (rw [hinv, firstE_stop hi2 (by assumption)]
         exact ⟨rfl, hs.tail⟩)
      | (rw [hinv, firstE_end (by omega)]
         exact ⟨rfl, hs⟩)

theorem c63 {w0 w : World} {F : List (Nat × Obj)} (a : Option Addr) (c : Nat) (l : List Count) (hl : l.length ≤ 9223372036854775807) (ha : Sl w0 F a 2 (crows l)) (fv : Value) (err : List Count → Count → Int)
    (hp : ∀ (i : Nat) (hi : i < l.length) (X : List (Nat × Obj)) (w : World), St w0 w (X ++ F) → FCon Try.prog fv [.int .i64 i, .agg l[i].cells.toArray] w fun v w' => v = .int .i64 (err (l.take i) l[i]) ∧ St w0 w' (X ++ F)) (hs : St w0 w F) :
  Con Try.prog 63 [.slice a l.length c, fv] w fun v w' => v = .tuple #[.int .i64 (firstE err [] 0 l).1, .int .i64 (firstE err [] 0 l).2] ∧ St w0 w' F := by
  refine con_of_wc (n := 25) Try.func63 rfl rfl (Nat.le_of_ble_eq_true rfl) ?_
  refine w_seq (fun K2 hK1 => ?_)
  refine w_region ?_
  refine w_pure want_none (y_assign (v := _) rfl rfl) rfl ?_
  refine w_pure want_none (y_assign (v := _) rfl rfl) rfl ?_
  refine w_nil ?_
  refine q_then (hK1 _ _ ?_)
  refine w_seq (fun K4 hK3 => ?_)
  refine w_seq (fun K6 hK5 => ?_)
  refine w_region ?_
  refine w_pure want_none (y_move (v := .slice _ _ _) rfl rfl) rfl ?_
  refine w_pure want_none (y_lenS Try.underlying24 rfl rfl) rfl ?_
  refine w_pure want_none (y_move (v := _) rfl rfl) rfl ?_
  refine w_nil ?_
  refine q_then (hK5 _ _ ?_)
  refine w_block ?_
  refine w_loop [4, 5, 6, 7, 8, 11, 12, 13, 14, 15, 16, 17, 18, 19, 20, 21, 22, 23, 24] [11] (fun k vs w => ∃ (i : Nat), vs = [.int .i64 i] ∧ i ≤ l.length ∧ k = l.length - i ∧ firstE err [] 0 l = firstE err (l.take i) i (l.drop i) ∧ St w0 w F) (l.length) ?_ ?_
  ·
   exact ⟨0, rfl, by omega, by omega, by simp, hs⟩
  ·
   intro k vs μ w9 hI K8 hN7
   obtain ⟨i, rfl, hia, rfl, hinv, hs⟩ := hI
   refine w_seq (fun K11 hK10 => ?_)
   refine w_region ?_
   refine w_pure want_none (y_lss rfl rfl rfl rfl) rfl ?_
   refine w_nil ?_
   refine q_then (hK10 _ _ ?_)
   refine w_seq (fun K13 hK12 => ?_)
   refine w_cond rfl rfl (fun h14 => ?_) (fun h14 => ?_)
   ·
    try simp only [Bool.not_eq_true', Bool.not_eq_false', decide_eq_true_eq, decide_eq_false_iff_not, Int.not_lt, Int.not_le] at h14
    refine w_skip ?_
    refine q_then (hK12 _ _ ?_)
    refine w_seq (fun K16 hK15 => ?_)
    refine w_block ?_
    refine w_seq (fun K18 hK17 => ?_)
    have hi2 : i < l.length := by omega
    obtain ⟨bx, ox, rfl, hx⟩ := sl_crows ha hi2
    refine w_region ?_
    refine w_pure want_none (y_move (v := .int _ _) rfl rfl) rfl ?_
    refine w_pure want_none (y_indexS Try.underlying24 Try.sizeOf51 rfl rfl rfl rfl (i := _) rfl (by omega)) rfl ?_
    refine w_pure want_none (y_loadN (vs := [_, _]) Try.isAgg51 Try.sizeOf51 hs rfl rfl hx) rfl ?_
    refine w_alloc (cs := [_, _]) want_none Try.zeroValue51 rfl hs (fun b19 w20 hs21 => ?_)
    refine w_pure want_none (y_assign (v := .int _ _) rfl rfl) rfl ?_
    refine w_store (i := 0) (v := .agg #[.int _ _, .int _ _]) (vs := [_, _]) want_none Try.sizeOf51 rfl rfl rfl rfl rfl (by simp [Value.oneCell']) hs21 rfl (Nat.le_of_ble_eq_true rfl) (fun w22 hs23 => ?_)
    refine w_nil ?_
    refine q_then (hK17 _ _ ?_)
    refine w_seq (fun K25 hK24 => ?_)
    refine w_region ?_
    refine w_pure want_none (y_move (v := fv) rfl rfl) rfl ?_
    refine w_pure want_none (y_move (v := .int _ _) rfl rfl) rfl ?_
    refine w_pure want_none (y_loadN (vs := [_, _]) Try.isAgg51 Try.sizeOf51 hs23 rfl rfl (ats_own (i := 0) (vs := [_, _]) rfl rfl)) rfl ?_
    refine w_callV want_none rfl rfl rfl rfl (hp i hi2 [_] _ hs23) ?_
    rintro _ w27 ⟨rfl, hs28⟩
    refine w_pure want_none (y_assign (v := .int _ _) rfl rfl) rfl ?_
    refine w_nil ?_
    refine q_then (hK24 _ _ ?_)
    refine w_seq (fun K30 hK29 => ?_)
    refine w_region ?_
    refine w_pure want_none (y_move (v := .int _ _) rfl rfl) rfl ?_
    refine w_pure want_none (y_neq rfl rfl rfl rfl) rfl ?_
    refine w_nil ?_
    refine q_then (hK29 _ _ ?_)
    refine w_cond rfl rfl (fun h31 => ?_) (fun h31 => ?_)
    ·
     try simp only [Bool.not_eq_true', Bool.not_eq_false', decide_eq_true_eq, decide_eq_false_iff_not, Int.not_lt, Int.not_le] at h31
     refine w_seq (fun K33 hK32 => ?_)
     refine w_region ?_
     refine w_pure want_none (y_move (v := .int _ _) rfl rfl) rfl ?_
     refine w_pure want_none (y_move (v := .int _ _) rfl rfl) rfl ?_
     refine w_pure want_none (y_assign (v := .int _ _) rfl rfl) rfl ?_
     refine w_pure want_none (y_assign (v := .int _ _) rfl rfl) rfl ?_
     refine w_nil ?_
     refine q_then (hK32 _ _ ?_)
     refine w_ret ?_
     refine q_blk_ret ?_
     refine q_then_ret ?_
     refine q_then_ret ?_
     refine q_blk_ret ?_
     refine q_then_ret ?_
     refine q_ret (l := [.tmp 4, .tmp 5]) (vs := [_, _]) rfl ⟨⟨rfl, show _ = (.int _ _ : Value) from rfl⟩, ⟨rfl, show _ = (.int _ _ : Value) from rfl⟩, trivial⟩ ?_
     first
       | (rw [hinv, firstE_stop hi2 (by assumption)]
          exact ⟨rfl, hs28.tail⟩)
       | (rw [hinv, firstE_end (by omega)]
          exact ⟨rfl, hs28⟩)
    ·
     try simp only [Bool.not_eq_true', Bool.not_eq_false', decide_eq_true_eq, decide_eq_false_iff_not, Int.not_lt, Int.not_le] at h31
     refine w_skip ?_
     refine q_blk_normal ?_
     refine q_then (hK15 _ _ ?_)
     refine w_region ?_
     refine w_pure want_none (y_add rfl rfl rfl rfl (by omega) (by omega)) rfl ?_
     refine w_pure want_none (y_move (v := .int _ _) rfl rfl) rfl ?_
     refine w_nil ?_
     refine q_then (hN7 _ _ (Nx.intro (l.length - (i + 1)) (by omega) (by repeat (first | exact agree_mix | refine agree_upd rfl ?_ | refine agree_updL rfl ?_ _ | refine agree_mixin rfl ?_)) ?_))
     exact ⟨i + 1, rfl, by omega, rfl, hinv.trans (firstE_step hi2 (by assumption)), hs28.tail⟩
   ·
    try simp only [Bool.not_eq_true', Bool.not_eq_false', decide_eq_true_eq, decide_eq_false_iff_not, Int.not_lt, Int.not_le] at h14
    refine w_exit ?_
    refine q_then_exit ?_
    refine q_then_exit ?_
    refine q_blk_this ?_
    refine q_then (hK3 _ _ ?_)
    refine w_seq (fun K35 hK34 => ?_)
    refine w_region ?_
    refine w_pure want_none (y_assign (v := _) rfl rfl) rfl ?_
    refine w_pure want_none (y_assign (v := _) rfl rfl) rfl ?_
    refine w_nil ?_
    refine q_then (hK34 _ _ ?_)
    refine w_ret ?_
    refine q_ret (l := [.tmp 4, .tmp 5]) (vs := [_, _]) rfl ⟨⟨rfl, show _ = (.int _ _ : Value) from rfl⟩, ⟨rfl, show _ = (.int _ _ : Value) from rfl⟩, trivial⟩ ?_
    first
      | (rw [hinv, firstE_stop hi2 (by assumption)]
         exact ⟨rfl, hs.tail⟩)
      | (rw [hinv, firstE_end (by omega)]
         exact ⟨rfl, hs⟩)

/-- What is known of a lot that comes in. -/
structure LIn (w0 : World) (F : List (Nat × Obj)) (l : Lot) (p : At3) : Prop where
  g : Sl w0 F p.ag 3 (grows l.grades)
  b : Sl w0 F p.ab 4 (brows l.bunches)
  c : Sl w0 F p.ac 2 (crows l.counts)
  lg : l.grades.length ≤ 9223372036854775807
  lb : l.bunches.length ≤ 9223372036854775807
  lc : l.counts.length ≤ 9223372036854775807
  cg : l.grades.length ≤ p.cg
  cb : l.bunches.length ≤ p.cb
  cc : l.counts.length ≤ p.cc
  ng : ∀ x ∈ l.grades, x.name.size ≤ 9223372036854775807
theorem LIn.mono {w0 : World} {F F' : List (Nat × Obj)} {l : Lot} {p : At3} (h : LIn w0 F l p) (hs : ∀ w, St w0 w F' → St w0 w F) : LIn w0 F' l p := ⟨h.g.mono hs, h.b.mono hs, h.c.mono hs, h.lg, h.lb, h.lc, h.cg, h.cb, h.cc, h.ng⟩
theorem LIn.cons {w0 : World} {F : List (Nat × Obj)} {x : Nat × Obj} {l : Lot} {p : At3} (h : LIn w0 F l p) : LIn w0 (x :: F) l p := h.mono fun _ h => h.tail
theorem LIn.app {w0 : World} {F B : List (Nat × Obj)} {l : Lot} {p : At3} (h : LIn w0 F l p) : LIn w0 (B ++ F) l p := h.mono fun _ h => h.drop
theorem tup3 {x : Int × Int × Int} {a b c : Int} (h : x = (a, b, c)) : Value.tuple #[.int .i64 a, .int .i64 b, .int .i64 c] = .tuple #[.int .i64 x.1, .int .i64 x.2.1, .int .i64 x.2.2] := by subst h; rfl
theorem out_nat (k : Int) (n : Nat) : out 0 k (n : Int) = decide (k < (n : Int)) := by unfold out; rw [Bool.eq_iff_iff]; simp; intro h; omega
theorem yd_cast {P : Program} {a : Act} {o : Oper} {w : World} {k : IntKind} {z z' : Int} (h : z = z') (hy : Yd P a o w (.int k z)) : Yd P a o w (.int k z') := h ▸ hy
theorem pow_le (n : Nat) (h : n ≤ 6) : 1 <<< n = 2 ^ n ∧ 1 ≤ 1 <<< n ∧ 1 <<< n ≤ 64 := by
  match n, h with
  | 0, _ => decide
  | 1, _ => decide
  | 2, _ => decide
  | 3, _ => decide
  | 4, _ => decide
  | 5, _ => decide
  | 6, _ => decide
theorem pow_all {n : Nat} (h : n ≤ 6) : ((1 <<< n : Nat) : Int) - 1 = 2 ^ n - 1 := by rw [(pow_le n h).1]; simp
theorem c59 {w0 w : World} {F : List (Nat × Obj)} (l : Lot) (p : At3) (hm : LIn w0 F l p) (i : Nat) (hi : i < l.grades.length) (bm : Nat) (hb : Ats w0 F bm 0 (l.cells p)) (hs : St w0 w F) :
  Con Try.prog 59 [.int .i64 i, .agg l.grades[i].cells.toArray, .pointer (some ⟨bm, 0, none⟩)] w fun v w' => v = .int .i64 (gradeE (l.grades.take i) l.grades[i]) ∧ St w0 w' F := by
  refine con_of_wc (n := 23) Try.func59 rfl rfl (Nat.le_of_ble_eq_true rfl) ?_
  refine w_seq (fun K2 hK1 => ?_)
  refine w_region ?_
  refine w_box (v := .agg #[.string _, .int _ _, .int _ _]) (cs := [_, _, _]) want_none rfl rfl rfl hs (fun b3 w4 hs5 => ?_)
  refine w_pure want_none (y_assign (v := _) rfl rfl) rfl ?_
  refine w_nil ?_
  refine q_then (hK1 _ _ ?_)
  refine w_seq (fun K7 hK6 => ?_)
  refine w_seq (fun K9 hK8 => ?_)
  refine w_region ?_
  refine w_call want_none Try.call60 rfl rfl rfl rfl (c60 hs5) ?_
  rintro _ w11 ⟨bq, rfl, hs12⟩
  refine w_pure want_none (y_lenS Try.underlying89 rfl rfl) rfl ?_
  refine w_pure want_none (y_move (v := _) rfl rfl) rfl ?_
  refine w_nil ?_
  refine q_then (hK8 _ _ ?_)
  refine w_block ?_
  refine w_loop [5, 7, 10, 11, 12, 13, 14, 15, 16, 17, 18, 19, 20, 21, 22] [10] (fun k vs w => ∃ j : Nat, vs = [.int .i64 j] ∧ j ≤ 4 ∧ k = 4 - j ∧ (∀ q < j, flawIs (l.grades.take i) l.grades[i] q = false) ∧ St w0 w ((bq, blk 93 flawCells) :: (b3, blk 79 l.grades[i].cells) :: F)) (4) ?_ ?_
  ·
   exact ⟨0, rfl, by omega, by omega, (fun q hq => by omega), hs12⟩
  ·
   intro k vs μ w15 hI K14 hN13
   obtain ⟨j, rfl, hja, rfl, hfl, hs⟩ := hI
   refine w_seq (fun K17 hK16 => ?_)
   refine w_region ?_
   refine w_pure want_none (y_lss rfl rfl rfl rfl) rfl ?_
   refine w_nil ?_
   refine q_then (hK16 _ _ ?_)
   refine w_seq (fun K19 hK18 => ?_)
   refine w_cond rfl rfl (fun h20 => ?_) (fun h20 => ?_)
   ·
    try simp only [Bool.not_eq_true', Bool.not_eq_false', decide_eq_true_eq, decide_eq_false_iff_not, Int.not_lt, Int.not_le] at h20
    refine w_skip ?_
    refine q_then (hK18 _ _ ?_)
    refine w_seq (fun K22 hK21 => ?_)
    refine w_block ?_
    refine w_seq (fun K24 hK23 => ?_)
    have hj2 : j < 4 := by omega
    have hxq := flaw_at (w0 := w0) (L := (bq, blk 93 flawCells) :: (b3, blk 79 l.grades[i].cells) :: F) (i := 0) rfl hj2
    refine w_region ?_
    refine w_pure want_none (y_indexS Try.underlying89 Try.sizeOf93 rfl rfl rfl rfl (i := _) rfl (by omega)) rfl ?_
    refine w_pure want_none (y_loadN (vs := [_, _]) Try.isAgg93 Try.sizeOf93 hs rfl rfl hxq) rfl ?_
    refine w_alloc (cs := [_, _]) want_none Try.zeroValue93 rfl hs (fun b25 w26 hs27 => ?_)
    refine w_store (i := 0) (v := .agg #[.int _ _, .func _ _ _]) (vs := [_, _]) want_none Try.sizeOf93 rfl rfl rfl rfl rfl (by simp [Value.oneCell']) hs27 rfl (Nat.le_of_ble_eq_true rfl) (fun w28 hs29 => ?_)
    refine w_nil ?_
    refine q_then (hK23 _ _ ?_)
    refine w_seq (fun K31 hK30 => ?_)
    refine w_region ?_
    refine w_pure want_none (y_fieldAddr (o := 1) (i := 1) Try.underlying93 rfl Try.sizeOf91 rfl rfl rfl) rfl ?_
    refine w_pure want_none (y_load1 Try.isAgg91 hs29 rfl rfl (ats_own (i := 0) (vs := [_]) rfl rfl)) rfl ?_
    refine w_pure want_none (y_fieldAddr (o := 0) (i := 0) Try.underlying26 rfl Try.sizeOf22 rfl rfl rfl) rfl ?_
    refine w_pure want_none (y_load1 Try.isAgg22 hs29.tail.tail.tail rfl rfl (show Ats _ _ _ _ [_] from Ats.part hb 0 1)) rfl ?_
    refine w_pure want_none (y_move (v := .int _ _) rfl rfl) rfl ?_
    refine w_callV want_none rfl rfl rfl rfl (flaw_con _ _ l.grades hm.lg hm.cg hm.g.cons.cons.cons i hi (hm.ng _ (List.getElem_mem hi)) j hj2 hs29) ?_
    rintro _ w33 ⟨rfl, hs34⟩
    refine w_nil ?_
    refine q_then (hK30 _ _ ?_)
    refine w_cond rfl rfl (fun h35 => ?_) (fun h35 => ?_)
    ·
     try simp only [Bool.not_eq_true', Bool.not_eq_false', decide_eq_true_eq, decide_eq_false_iff_not, Int.not_lt, Int.not_le] at h35
     refine w_seq (fun K37 hK36 => ?_)
     refine w_region ?_
     refine w_pure want_none (y_fieldAddr (o := 0) (i := 0) Try.underlying93 rfl Try.sizeOf27 rfl rfl rfl) rfl ?_
     refine w_pure want_none (y_load1 Try.isAgg27 hs34 rfl rfl (ats_own (i := 0) (vs := [_]) rfl rfl)) rfl ?_
     refine w_pure want_none (y_assign (v := .int _ _) rfl rfl) rfl ?_
     refine w_nil ?_
     refine q_then (hK36 _ _ ?_)
     refine w_ret ?_
     refine q_blk_ret ?_
     refine q_then_ret ?_
     refine q_then_ret ?_
     refine q_blk_ret ?_
     refine q_then_ret ?_
     refine q_ret (l := [.tmp 5]) (vs := [_]) rfl ⟨⟨rfl, show _ = (.int _ _ : Value) from rfl⟩, trivial⟩ ?_
     first
       | exact ⟨congrArg (Value.int .i64) (gradeE_flaw hj2 (by assumption) hfl).symm, hs34.tail.tail.tail⟩
       | (have hj4 : j = 4 := by omega
          subst hj4
          exact ⟨congrArg (Value.int .i64) (gradeE_fine hfl).symm, hs34.tail.tail.tail⟩)
    ·
     try simp only [Bool.not_eq_true', Bool.not_eq_false', decide_eq_true_eq, decide_eq_false_iff_not, Int.not_lt, Int.not_le] at h35
     refine w_skip ?_
     refine q_blk_normal ?_
     refine q_then (hK21 _ _ ?_)
     refine w_region ?_
     refine w_pure want_none (y_add rfl rfl rfl rfl (by omega) (by omega)) rfl ?_
     refine w_pure want_none (y_move (v := .int _ _) rfl rfl) rfl ?_
     refine w_nil ?_
     refine q_then (hN13 _ _ (Nx.intro (4 - (j + 1)) (by omega) (by repeat (first | exact agree_mix | refine agree_upd rfl ?_ | refine agree_updL rfl ?_ _ | refine agree_mixin rfl ?_)) ?_))
     exact ⟨j + 1, rfl, by omega, rfl, (fun q hq => by rcases Nat.lt_or_ge q j with h | h; exact hfl q h; have hqj : q = j := (by omega); subst hqj; assumption), hs34.tail⟩
   ·
    try simp only [Bool.not_eq_true', Bool.not_eq_false', decide_eq_true_eq, decide_eq_false_iff_not, Int.not_lt, Int.not_le] at h20
    refine w_exit ?_
    refine q_then_exit ?_
    refine q_then_exit ?_
    refine q_blk_this ?_
    refine q_then (hK6 _ _ ?_)
    refine w_seq (fun K39 hK38 => ?_)
    refine w_region ?_
    refine w_pure want_none (y_assign (v := _) rfl rfl) rfl ?_
    refine w_nil ?_
    refine q_then (hK38 _ _ ?_)
    refine w_ret ?_
    refine q_ret (l := [.tmp 5]) (vs := [_]) rfl ⟨⟨rfl, show _ = (.int _ _ : Value) from rfl⟩, trivial⟩ ?_
    first
      | exact ⟨congrArg (Value.int .i64) (gradeE_flaw hj2 (by assumption) hfl).symm, hs.tail.tail⟩
      | (have hj4 : j = 4 := by omega
         subst hj4
         exact ⟨congrArg (Value.int .i64) (gradeE_fine hfl).symm, hs.tail.tail⟩)

theorem c62 {w0 w : World} {F : List (Nat × Obj)} (i : Int) (b : Bunch) (bf : List Bunch) (hs : St w0 w F) :
  Con Try.prog 62 [.int .i64 i, .agg b.cells.toArray] w fun v w' => v = .int .i64 (bunchE bf b) ∧ St w0 w' F := by
  refine con_of_wc (n := 43) Try.func62 rfl rfl (Nat.le_of_ble_eq_true rfl) ?_
  refine w_seq (fun K2 hK1 => ?_)
  refine w_region ?_
  refine w_box (v := .agg #[.int _ _, .int _ _, .int _ _, .int _ _]) (cs := [_, _, _, _]) want_none rfl rfl rfl hs (fun b3 w4 hs5 => ?_)
  refine w_pure want_none (y_assign (v := _) rfl rfl) rfl ?_
  refine w_nil ?_
  refine q_then (hK1 _ _ ?_)
  refine w_seq (fun K7 hK6 => ?_)
  refine w_block ?_
  refine w_seq (fun K9 hK8 => ?_)
  refine w_region ?_
  refine w_pure want_none (y_fieldAddr (o := 0) (i := 0) Try.underlying81 rfl Try.sizeOf34 rfl rfl rfl) rfl ?_
  refine w_pure want_none (y_fieldAddr (o := 0) (i := 0) Try.underlying34 rfl Try.sizeOf3 rfl rfl rfl) rfl ?_
  refine w_pure want_none (y_load1 Try.isAgg3 hs5 rfl rfl (ats_own (i := 0) (vs := [_]) rfl rfl)) rfl ?_
  refine w_pure want_none (y_fieldAddr (o := 0) (i := 0) Try.underlying81 rfl Try.sizeOf34 rfl rfl rfl) rfl ?_
  refine w_pure want_none (y_fieldAddr (o := 1) (i := 1) Try.underlying34 rfl Try.sizeOf3 rfl rfl rfl) rfl ?_
  refine w_pure want_none (y_load1 Try.isAgg3 hs5 rfl rfl (ats_own (i := 0) (vs := [_]) rfl rfl)) rfl ?_
  refine w_bslice (ps := [(0, _), (1, _)]) (pv := [(0, .int _ _), (1, .int _ _)]) (cs := [_, _]) want_none rfl rfl (fun w => Try_D_fb0 _ _ w) hs5 (fun b10 w11 hs12 => ?_)
  refine w_call want_none Try.call57 rfl rfl rfl rfl (c57 _ _ _ [_, _] _ (by simp) (sl_own (i := 0) (rows := [[_], [_]]) rfl (by simp) rfl) hs12) ?_
  rintro _ w14 ⟨rfl, hs15⟩
  refine w_pure want_none (y_move (v := .bool _) rfl rfl) rfl ?_
  refine w_split (fun h16 => ?_) (fun h16 => ?_)
  ·
   try simp only [Bool.not_eq_true', Bool.not_eq_false', decide_eq_true_eq, decide_eq_false_iff_not, Int.not_lt, Int.not_le] at h16
   refine w_skipop rfl rfl rfl ?_
   refine w_skipop rfl rfl rfl ?_
   refine w_skipop rfl rfl rfl ?_
   refine w_skipop rfl rfl rfl ?_
   refine w_skipop rfl rfl rfl ?_
   refine w_skipop rfl rfl rfl ?_
   refine w_skipop rfl rfl rfl ?_
   refine w_skipop rfl rfl rfl ?_
   refine w_pure want_none (y_pickT (v := _) rfl rfl rfl rfl) rfl ?_
   refine w_pure want_none (y_assign (v := .bool _) rfl rfl) rfl ?_
   refine w_nil ?_
   refine q_then (hK8 _ _ ?_)
   refine w_condT rfl rfl ?_
   refine w_seq (fun K18 hK17 => ?_)
   refine w_region ?_
   refine w_pure want_none (y_assign (v := _) rfl rfl) rfl ?_
   refine w_nil ?_
   refine q_then (hK17 _ _ ?_)
   refine w_ret ?_
   refine q_blk_ret ?_
   refine q_then_ret ?_
   refine q_ret (l := [.tmp 4]) (vs := [_]) rfl ⟨⟨rfl, show _ = (.int _ _ : Value) from rfl⟩, trivial⟩ ?_
   try simp only [List.any_cons, List.any_nil, Bool.or_false, Bool.or_eq_false_iff] at h16
   exact ⟨congrArg (Value.int .i64) (by simp [bunchE, h16] <;> omega), hs15.tail.tail⟩
  ·
   try simp only [Bool.not_eq_true', Bool.not_eq_false', decide_eq_true_eq, decide_eq_false_iff_not, Int.not_lt, Int.not_le] at h16
   refine w_pure (want_yes rfl rfl rfl) (y_fieldAddr (o := 2) (i := 1) Try.underlying81 rfl Try.sizeOf34 rfl rfl rfl) rfl ?_
   refine w_pure (want_yes rfl rfl rfl) (y_fieldAddr (o := 0) (i := 0) Try.underlying34 rfl Try.sizeOf3 rfl rfl rfl) rfl ?_
   refine w_pure (want_yes rfl rfl rfl) (y_load1 Try.isAgg3 hs15 rfl rfl (ats_own (i := 1) (vs := [_]) rfl rfl)) rfl ?_
   refine w_pure (want_yes rfl rfl rfl) (y_fieldAddr (o := 2) (i := 1) Try.underlying81 rfl Try.sizeOf34 rfl rfl rfl) rfl ?_
   refine w_pure (want_yes rfl rfl rfl) (y_fieldAddr (o := 1) (i := 1) Try.underlying34 rfl Try.sizeOf3 rfl rfl rfl) rfl ?_
   refine w_pure (want_yes rfl rfl rfl) (y_load1 Try.isAgg3 hs15 rfl rfl (ats_own (i := 1) (vs := [_]) rfl rfl)) rfl ?_
   refine w_bslice (ps := [(0, _), (1, _)]) (pv := [(0, .int _ _), (1, .int _ _)]) (cs := [_, _]) (want_yes rfl rfl rfl) rfl rfl (fun w => Try_D_fb0 _ _ w) hs15 (fun b19 w20 hs21 => ?_)
   refine w_call (want_yes rfl rfl rfl) Try.call57 rfl rfl rfl rfl (c57 _ _ _ [_, _] _ (by simp) (sl_own (i := 0) (rows := [[_], [_]]) rfl (by simp) rfl) hs21) ?_
   rintro _ w23 ⟨rfl, hs24⟩
   refine w_pure want_none (y_pickF (v := .bool _) rfl rfl rfl rfl) rfl ?_
   refine w_pure want_none (y_assign (v := .bool _) rfl rfl) rfl ?_
   refine w_nil ?_
   refine q_then (hK8 _ _ ?_)
   refine w_cond rfl rfl (fun h25 => ?_) (fun h25 => ?_)
   ·
    try simp only [Bool.not_eq_true', Bool.not_eq_false', decide_eq_true_eq, decide_eq_false_iff_not, Int.not_lt, Int.not_le] at h25
    refine w_seq (fun K27 hK26 => ?_)
    refine w_region ?_
    refine w_pure want_none (y_assign (v := _) rfl rfl) rfl ?_
    refine w_nil ?_
    refine q_then (hK26 _ _ ?_)
    refine w_ret ?_
    refine q_blk_ret ?_
    refine q_then_ret ?_
    refine q_ret (l := [.tmp 4]) (vs := [_]) rfl ⟨⟨rfl, show _ = (.int _ _ : Value) from rfl⟩, trivial⟩ ?_
    try simp only [List.any_cons, List.any_nil, Bool.or_false, Bool.or_eq_false_iff] at h16 h25
    exact ⟨congrArg (Value.int .i64) (by simp [bunchE, h16, h25] <;> omega), hs24.tail.tail.tail⟩
   ·
    try simp only [Bool.not_eq_true', Bool.not_eq_false', decide_eq_true_eq, decide_eq_false_iff_not, Int.not_lt, Int.not_le] at h25
    refine w_seq (fun K29 hK28 => ?_)
    have hbb : 1 ≤ b.lo ∧ b.lo ≤ 12 ∧ 1 ≤ b.hi ∧ b.hi ≤ 12 := by
      have hq : [b.lo, b.hi].any (out 1 12) = false := by assumption
      simp [out] at hq; omega
    refine w_region ?_
    refine w_pure want_none (y_fieldAddr (o := 0) (i := 0) Try.underlying81 rfl Try.sizeOf34 rfl rfl rfl) rfl ?_
    refine w_pure want_none (y_fieldAddr (o := 1) (i := 1) Try.underlying34 rfl Try.sizeOf3 rfl rfl rfl) rfl ?_
    refine w_pure want_none (y_load1 Try.isAgg3 hs24 rfl rfl (ats_own (i := 2) (vs := [_]) rfl rfl)) rfl ?_
    refine w_pure want_none (y_fieldAddr (o := 0) (i := 0) Try.underlying81 rfl Try.sizeOf34 rfl rfl rfl) rfl ?_
    refine w_pure want_none (y_fieldAddr (o := 0) (i := 0) Try.underlying34 rfl Try.sizeOf3 rfl rfl rfl) rfl ?_
    refine w_pure want_none (y_load1 Try.isAgg3 hs24 rfl rfl (ats_own (i := 2) (vs := [_]) rfl rfl)) rfl ?_
    refine w_pure want_none (y_sub rfl rfl rfl rfl (by omega) (by omega)) rfl ?_
    refine w_bslice (ps := [(0, _)]) (pv := [(0, .int _ _)]) (cs := [_]) want_none rfl rfl (fun w => Try_D_fb1 _ w) hs24 (fun b30 w31 hs32 => ?_)
    refine w_call want_none Try.call57 rfl rfl rfl rfl (c57 _ _ _ [_] _ (by simp) (sl_own (i := 0) (rows := [[_]]) rfl (by simp) rfl) hs32) ?_
    rintro _ w34 ⟨rfl, hs35⟩
    refine w_pure want_none (y_move (v := .bool _) rfl rfl) rfl ?_
    refine w_split (fun h36 => ?_) (fun h36 => ?_)
    ·
     try simp only [Bool.not_eq_true', Bool.not_eq_false', decide_eq_true_eq, decide_eq_false_iff_not, Int.not_lt, Int.not_le] at h36
     refine w_skipop rfl rfl rfl ?_
     refine w_skipop rfl rfl rfl ?_
     refine w_skipop rfl rfl rfl ?_
     refine w_skipop rfl rfl rfl ?_
     refine w_skipop rfl rfl rfl ?_
     refine w_skipop rfl rfl rfl ?_
     refine w_skipop rfl rfl rfl ?_
     refine w_pure want_none (y_pickT (v := _) rfl rfl rfl rfl) rfl ?_
     refine w_pure want_none (y_assign (v := .bool _) rfl rfl) rfl ?_
     refine w_nil ?_
     refine q_then (hK28 _ _ ?_)
     refine w_condT rfl rfl ?_
     refine w_seq (fun K38 hK37 => ?_)
     refine w_region ?_
     refine w_pure want_none (y_assign (v := _) rfl rfl) rfl ?_
     refine w_nil ?_
     refine q_then (hK37 _ _ ?_)
     refine w_ret ?_
     refine q_blk_ret ?_
     refine q_then_ret ?_
     refine q_ret (l := [.tmp 4]) (vs := [_]) rfl ⟨⟨rfl, show _ = (.int _ _ : Value) from rfl⟩, trivial⟩ ?_
     try simp only [List.any_cons, List.any_nil, Bool.or_false, Bool.or_eq_false_iff] at h16 h25 h36
     exact ⟨congrArg (Value.int .i64) (by simp [bunchE, h16, h25, h36] <;> omega), hs35.tail.tail.tail.tail⟩
    ·
     try simp only [Bool.not_eq_true', Bool.not_eq_false', decide_eq_true_eq, decide_eq_false_iff_not, Int.not_lt, Int.not_le] at h36
     refine w_pure (want_yes rfl rfl rfl) (y_fieldAddr (o := 2) (i := 1) Try.underlying81 rfl Try.sizeOf34 rfl rfl rfl) rfl ?_
     refine w_pure (want_yes rfl rfl rfl) (y_fieldAddr (o := 0) (i := 0) Try.underlying34 rfl Try.sizeOf3 rfl rfl rfl) rfl ?_
     refine w_pure (want_yes rfl rfl rfl) (y_load1 Try.isAgg3 hs35 rfl rfl (ats_own (i := 3) (vs := [_]) rfl rfl)) rfl ?_
     refine w_pure (want_yes rfl rfl rfl) (y_fieldAddr (o := 2) (i := 1) Try.underlying81 rfl Try.sizeOf34 rfl rfl rfl) rfl ?_
     refine w_pure (want_yes rfl rfl rfl) (y_fieldAddr (o := 1) (i := 1) Try.underlying34 rfl Try.sizeOf3 rfl rfl rfl) rfl ?_
     refine w_pure (want_yes rfl rfl rfl) (y_load1 Try.isAgg3 hs35 rfl rfl (ats_own (i := 3) (vs := [_]) rfl rfl)) rfl ?_
     refine w_pure (want_yes rfl rfl rfl) (y_gtr rfl rfl rfl rfl) rfl ?_
     refine w_pure want_none (y_pickF (v := .bool _) rfl rfl rfl rfl) rfl ?_
     refine w_pure want_none (y_assign (v := .bool _) rfl rfl) rfl ?_
     refine w_nil ?_
     refine q_then (hK28 _ _ ?_)
     refine w_cond rfl rfl (fun h39 => ?_) (fun h39 => ?_)
     ·
      try simp only [Bool.not_eq_true', Bool.not_eq_false', decide_eq_true_eq, decide_eq_false_iff_not, Int.not_lt, Int.not_le] at h39
      refine w_seq (fun K41 hK40 => ?_)
      refine w_region ?_
      refine w_pure want_none (y_assign (v := _) rfl rfl) rfl ?_
      refine w_nil ?_
      refine q_then (hK40 _ _ ?_)
      refine w_ret ?_
      refine q_blk_ret ?_
      refine q_then_ret ?_
      refine q_ret (l := [.tmp 4]) (vs := [_]) rfl ⟨⟨rfl, show _ = (.int _ _ : Value) from rfl⟩, trivial⟩ ?_
      try simp only [List.any_cons, List.any_nil, Bool.or_false, Bool.or_eq_false_iff] at h16 h25 h36 h39
      exact ⟨congrArg (Value.int .i64) (by simp [bunchE, h16, h25, h36, h39] <;> omega), hs35.tail.tail.tail.tail⟩
     ·
      try simp only [Bool.not_eq_true', Bool.not_eq_false', decide_eq_true_eq, decide_eq_false_iff_not, Int.not_lt, Int.not_le] at h39
      refine w_skip ?_
      refine q_blk_normal ?_
      refine q_then (hK6 _ _ ?_)
      refine w_seq (fun K43 hK42 => ?_)
      refine w_region ?_
      refine w_pure want_none (y_assign (v := _) rfl rfl) rfl ?_
      refine w_nil ?_
      refine q_then (hK42 _ _ ?_)
      refine w_ret ?_
      refine q_ret (l := [.tmp 4]) (vs := [_]) rfl ⟨⟨rfl, show _ = (.int _ _ : Value) from rfl⟩, trivial⟩ ?_
      try simp only [List.any_cons, List.any_nil, Bool.or_false, Bool.or_eq_false_iff] at h16 h25 h36 h39
      exact ⟨congrArg (Value.int .i64) (by simp [bunchE, h16, h25, h36, h39] <;> omega), hs35.tail.tail.tail.tail⟩

theorem c64 {w0 w : World} {F : List (Nat × Obj)} (l : Lot) (p : At3) (hm : LIn w0 F l p) (h6 : l.bunches.length ≤ 6) (i : Int) (x : Count) (bf : List Count) (bm : Nat) (hb : Ats w0 F bm 0 (l.cells p)) (hs : St w0 w F) :
  Con Try.prog 64 [.int .i64 i, .agg x.cells.toArray, .pointer (some ⟨bm, 0, none⟩)] w fun v w' => v = .int .i64 (countE l.bunches.length bf x) ∧ St w0 w' F := by
  refine con_of_wc (n := 21) Try.func64 rfl rfl (Nat.le_of_ble_eq_true rfl) ?_
  have hpl := pow_le _ h6
  refine w_seq (fun K2 hK1 => ?_)
  refine w_region ?_
  refine w_box (v := .agg #[.int _ _, .int _ _]) (cs := [_, _]) want_none rfl rfl rfl hs (fun b3 w4 hs5 => ?_)
  refine w_pure want_none (y_assign (v := _) rfl rfl) rfl ?_
  refine w_nil ?_
  refine q_then (hK1 _ _ ?_)
  refine w_seq (fun K7 hK6 => ?_)
  refine w_block ?_
  refine w_seq (fun K9 hK8 => ?_)
  refine w_draw [] [(0, 0), (1, 1), (2, 0), (3, 0), (4, 0), (5, 0), (6, 1), (7, 2), (8, 2), (9, 0)] Try_mo (by kernel_rfl) hs5 (fun w10 hs11 => ?_)
  refine d_any rfl want_none rfl (fun _ => (y_fieldAddr (o := 1) (i := 1) Try.underlying26 rfl Try.sizeOf23 rfl rfl rfl)) ?_
  refine d_take rfl want_none rfl hs11 (fun _ hq => (y_load1 Try.isAgg23 hq.tail rfl rfl (show Ats _ _ _ _ [_] from Ats.part hb 1 1))) ?_
  refine d_any rfl want_none rfl (fun _ => (y_lenS Try.underlying23 rfl rfl)) ?_
  refine d_any rfl want_none rfl (fun _ => (y_shl (x := 1) (y := _) rfl rfl rfl rfl rfl rfl (by first | omega | exact shr_lt (by omega)) (by first | omega | exact shr_lt (by omega)))) ?_
  refine d_any rfl want_none rfl (fun _ => (yd_cast (z' := 2 ^ l.bunches.length - 1) (pow_all h6) (y_sub rfl rfl rfl rfl (by omega) (by omega)))) ?_
  refine d_any rfl want_none rfl (fun _ => (y_fieldAddr (o := 0) (i := 0) Try.underlying51 rfl Try.sizeOf3 rfl rfl rfl)) ?_
  refine d_take rfl want_none rfl hs11 (fun _ hq => (y_load1 Try.isAgg3 hq rfl rfl (ats_own (i := 0) (vs := [_]) rfl rfl))) ?_
  refine d_eff rfl ?_
  refine w_bslice (ps := [(0, _)]) (pv := [(0, .int _ _)]) (cs := [_]) want_none rfl rfl (fun w => Try_D_fb1 _ w) hs11 (fun b12 w13 hs14 => ?_)
  refine w_nil ?_
  refine qn ⟨hs14.tail, ?_⟩
  refine d_eff rfl ?_
  refine w_call want_none Try.call57 rfl rfl rfl rfl (c57 _ _ _ [_] _ (by simp) (sl_own (i := 0) (rows := [[_]]) rfl (by simp) rfl) hs14) ?_
  rintro _ w16 ⟨rfl, hs17⟩
  refine w_nil ?_
  refine qn ⟨hs17.tail, ?_⟩
  refine d_any rfl want_none rfl (fun _ => (y_assign (v := .bool _) rfl rfl)) ?_
  refine d_nil ?_
  refine q_then (hK8 _ _ ?_)
  refine w_cond rfl rfl (fun h18 => ?_) (fun h18 => ?_)
  ·
   try simp only [Bool.not_eq_true', Bool.not_eq_false', decide_eq_true_eq, decide_eq_false_iff_not, Int.not_lt, Int.not_le] at h18
   refine w_seq (fun K20 hK19 => ?_)
   refine w_region ?_
   refine w_pure want_none (y_assign (v := _) rfl rfl) rfl ?_
   refine w_nil ?_
   refine q_then (hK19 _ _ ?_)
   refine w_ret ?_
   refine q_blk_ret ?_
   refine q_then_ret ?_
   refine q_ret (l := [.tmp 5]) (vs := [_]) rfl ⟨⟨rfl, show _ = (.int _ _ : Value) from rfl⟩, trivial⟩ ?_
   try simp only [List.any_cons, List.any_nil, Bool.or_false, Bool.or_eq_false_iff] at h18
   exact ⟨congrArg (Value.int .i64) (by simp [countE, h18] <;> omega), hs17.tail.tail⟩
  ·
   try simp only [Bool.not_eq_true', Bool.not_eq_false', decide_eq_true_eq, decide_eq_false_iff_not, Int.not_lt, Int.not_le] at h18
   refine w_seq (fun K22 hK21 => ?_)
   refine w_region ?_
   refine w_pure want_none (y_fieldAddr (o := 1) (i := 1) Try.underlying51 rfl Try.sizeOf3 rfl rfl rfl) rfl ?_
   refine w_pure want_none (y_load1 Try.isAgg3 hs17 rfl rfl (ats_own (i := 1) (vs := [_]) rfl rfl)) rfl ?_
   refine w_bslice (ps := [(0, _)]) (pv := [(0, .int _ _)]) (cs := [_]) want_none rfl rfl (fun w => Try_D_fb1 _ w) hs17 (fun b23 w24 hs25 => ?_)
   refine w_call want_none Try.call57 rfl rfl rfl rfl (c57 _ _ _ [_] _ (by simp) (sl_own (i := 0) (rows := [[_]]) rfl (by simp) rfl) hs25) ?_
   rintro _ w27 ⟨rfl, hs28⟩
   refine w_pure want_none (y_assign (v := .bool _) rfl rfl) rfl ?_
   refine w_nil ?_
   refine q_then (hK21 _ _ ?_)
   refine w_cond rfl rfl (fun h29 => ?_) (fun h29 => ?_)
   ·
    try simp only [Bool.not_eq_true', Bool.not_eq_false', decide_eq_true_eq, decide_eq_false_iff_not, Int.not_lt, Int.not_le] at h29
    refine w_seq (fun K31 hK30 => ?_)
    refine w_region ?_
    refine w_pure want_none (y_assign (v := _) rfl rfl) rfl ?_
    refine w_nil ?_
    refine q_then (hK30 _ _ ?_)
    refine w_ret ?_
    refine q_blk_ret ?_
    refine q_then_ret ?_
    refine q_ret (l := [.tmp 5]) (vs := [_]) rfl ⟨⟨rfl, show _ = (.int _ _ : Value) from rfl⟩, trivial⟩ ?_
    try simp only [List.any_cons, List.any_nil, Bool.or_false, Bool.or_eq_false_iff] at h18 h29
    exact ⟨congrArg (Value.int .i64) (by simp [countE, h18, h29] <;> omega), hs28.tail.tail.tail⟩
   ·
    try simp only [Bool.not_eq_true', Bool.not_eq_false', decide_eq_true_eq, decide_eq_false_iff_not, Int.not_lt, Int.not_le] at h29
    refine w_skip ?_
    refine q_blk_normal ?_
    refine q_then (hK6 _ _ ?_)
    refine w_seq (fun K33 hK32 => ?_)
    refine w_region ?_
    refine w_pure want_none (y_assign (v := _) rfl rfl) rfl ?_
    refine w_nil ?_
    refine q_then (hK32 _ _ ?_)
    refine w_ret ?_
    refine q_ret (l := [.tmp 5]) (vs := [_]) rfl ⟨⟨rfl, show _ = (.int _ _ : Value) from rfl⟩, trivial⟩ ?_
    try simp only [List.any_cons, List.any_nil, Bool.or_false, Bool.or_eq_false_iff] at h18 h29
    exact ⟨congrArg (Value.int .i64) (by simp [countE, h18, h29] <;> omega), hs28.tail.tail.tail⟩

theorem c16 {w0 w : World} {F : List (Nat × Obj)} (l : Lot) (p : At3) (hm : LIn w0 F l p)  (hs : St w0 w F) :
  Con Try.prog 16 [.agg (l.cells p).toArray] w fun v w' => v = .tuple #[.int .i64 (check l).1, .int .i64 (check l).2.1, .int .i64 (check l).2.2] ∧ St w0 w' F := by
  refine con_of_wc (n := 54) Try.func16 rfl rfl (Nat.le_of_ble_eq_true rfl) ?_
  have hlg := hm.lg
  have hlb := hm.lb
  have hlc := hm.lc
  refine w_seq (fun K2 hK1 => ?_)
  refine w_region ?_
  refine w_box (v := .agg #[.slice _ _ _, .slice _ _ _, .slice _ _ _]) (cs := [_, _, _]) want_none rfl rfl rfl hs (fun b3 w4 hs5 => ?_)
  refine w_pure want_none (y_assign (v := _) rfl rfl) rfl ?_
  refine w_pure want_none (y_assign (v := _) rfl rfl) rfl ?_
  refine w_pure want_none (y_assign (v := _) rfl rfl) rfl ?_
  refine w_nil ?_
  refine q_then (hK1 _ _ ?_)
  refine w_seq (fun K7 hK6 => ?_)
  refine w_seq (fun K9 hK8 => ?_)
  refine w_region ?_
  refine w_pure want_none (y_fieldAddr (o := 0) (i := 0) Try.underlying26 rfl Try.sizeOf22 rfl rfl rfl) rfl ?_
  refine w_pure want_none (y_load1 Try.isAgg22 hs5 rfl rfl (ats_own (i := 0) (vs := [_]) rfl rfl)) rfl ?_
  refine w_pure want_none (y_lenS Try.underlying22 rfl rfl) rfl ?_
  refine w_bslice (ps := [(0, _)]) (pv := [(0, .int _ _)]) (cs := [_]) want_none rfl rfl (fun w => Try_D_fb1 _ w) hs5 (fun b10 w11 hs12 => ?_)
  refine w_call want_none Try.call57 rfl rfl rfl rfl (c57 _ _ _ [_] _ (by simp) (sl_own (i := 0) (rows := [[_]]) rfl (by simp) rfl) hs12) ?_
  rintro _ w14 ⟨rfl, hs15⟩
  refine w_nil ?_
  refine q_then (hK8 _ _ ?_)
  refine w_cond rfl rfl (fun h16 => ?_) (fun h16 => ?_)
  ·
   try simp only [Bool.not_eq_true', Bool.not_eq_false', decide_eq_true_eq, decide_eq_false_iff_not, Int.not_lt, Int.not_le] at h16
   refine w_seq (fun K18 hK17 => ?_)
   refine w_region ?_
   refine w_pure want_none (y_assign (v := _) rfl rfl) rfl ?_
   refine w_pure want_none (y_assign (v := _) rfl rfl) rfl ?_
   refine w_pure want_none (y_assign (v := _) rfl rfl) rfl ?_
   refine w_nil ?_
   refine q_then (hK17 _ _ ?_)
   refine w_ret ?_
   refine q_then_ret ?_
   refine q_ret (l := [.tmp 2, .tmp 3, .tmp 4]) (vs := [_, _, _]) rfl ⟨⟨rfl, show _ = (.int _ _ : Value) from rfl⟩, ⟨rfl, show _ = (.int _ _ : Value) from rfl⟩, ⟨rfl, show _ = (.int _ _ : Value) from rfl⟩, trivial⟩ ?_
   try simp only [List.any_cons, List.any_nil, Bool.or_false, Bool.or_eq_false_iff] at h16
   refine ⟨tup3 ?_, hs15.tail.tail⟩; unfold check failE
   try have e1 : ¬ ((6:Int) < (l.bunches.length : Int)) := by omega
   try have e2 : ¬ ((4:Int) < (l.counts.length : Int)) := by omega
   first
     | (simp [out_nat, h16, e1, e2]; done)
     | (simp [out_nat, h16, e1]; done)
     | (simp [out_nat, h16]; done)
  ·
   try simp only [Bool.not_eq_true', Bool.not_eq_false', decide_eq_true_eq, decide_eq_false_iff_not, Int.not_lt, Int.not_le] at h16
   refine w_skip ?_
   refine q_then (hK6 _ _ ?_)
   refine w_seq (fun K20 hK19 => ?_)
   refine w_region ?_
   refine w_pure want_none (y_fieldAddr (o := 0) (i := 0) Try.underlying26 rfl Try.sizeOf22 rfl rfl rfl) rfl ?_
   refine w_pure want_none (y_load1 Try.isAgg22 hs15 rfl rfl (ats_own (i := 1) (vs := [_]) rfl rfl)) rfl ?_
   refine w_pure want_none (y_makeFunc (fv := []) (cv := [_]) rfl rfl rfl rfl) rfl ?_
   refine w_call want_none Try.call58 rfl rfl rfl rfl (c58 (F := _ :: ((b3, blk 26 (l.cells p)) :: F)) _ _ l.grades hlg hm.g.cons.cons (.func (.func 59) #[] #[.pointer (some ⟨b3, 0, none⟩)]) gradeE (fun i hi X w hs => fcon_fn Try.call59 (c59 (F := X ++ (_ :: ((b3, blk 26 (l.cells p)) :: F))) l p hm.cons.cons.app i hi _ (Ats.app (Ats.cons (ats_own (i := 0) (vs := l.cells p) rfl rfl))) hs)) hs15) ?_
   rintro _ w22 ⟨rfl, hs23⟩
   refine w_pure want_none (y_move (v := .tuple _) rfl rfl) rfl ?_
   refine w_pure want_none (y_extract (v := .int _ _) rfl rfl rfl) rfl ?_
   refine w_pure want_none (y_extract (v := .int _ _) rfl rfl rfl) rfl ?_
   refine w_pure want_none (y_assign (v := .int _ _) rfl rfl) rfl ?_
   refine w_pure want_none (y_assign (v := .int _ _) rfl rfl) rfl ?_
   refine w_nil ?_
   refine q_then (hK19 _ _ ?_)
   refine w_seq (fun K25 hK24 => ?_)
   refine w_block ?_
   refine w_seq (fun K27 hK26 => ?_)
   refine w_region ?_
   refine w_pure want_none (y_move (v := .int _ _) rfl rfl) rfl ?_
   refine w_pure want_none (y_neq rfl rfl rfl rfl) rfl ?_
   refine w_pure want_none (y_assign (v := .bool _) rfl rfl) rfl ?_
   refine w_nil ?_
   refine q_then (hK26 _ _ ?_)
   refine w_cond rfl rfl (fun h28 => ?_) (fun h28 => ?_)
   ·
    try simp only [Bool.not_eq_true', Bool.not_eq_false', decide_eq_true_eq, decide_eq_false_iff_not, Int.not_lt, Int.not_le] at h28
    refine w_seq (fun K30 hK29 => ?_)
    refine w_region ?_
    refine w_pure want_none (y_move (v := .int _ _) rfl rfl) rfl ?_
    refine w_pure want_none (y_move (v := .int _ _) rfl rfl) rfl ?_
    refine w_pure want_none (y_assign (v := _) rfl rfl) rfl ?_
    refine w_pure want_none (y_assign (v := .int _ _) rfl rfl) rfl ?_
    refine w_pure want_none (y_assign (v := .int _ _) rfl rfl) rfl ?_
    refine w_nil ?_
    refine q_then (hK29 _ _ ?_)
    refine w_ret ?_
    refine q_blk_ret ?_
    refine q_then_ret ?_
    refine q_ret (l := [.tmp 2, .tmp 3, .tmp 4]) (vs := [_, _, _]) rfl ⟨⟨rfl, show _ = (.int _ _ : Value) from rfl⟩, ⟨rfl, show _ = (.int _ _ : Value) from rfl⟩, ⟨rfl, show _ = (.int _ _ : Value) from rfl⟩, trivial⟩ ?_
    try simp only [List.any_cons, List.any_nil, Bool.or_false, Bool.or_eq_false_iff] at h16 h28
    refine ⟨tup3 ?_, hs23.tail.tail⟩; unfold check failE
    try have e1 : ¬ ((6:Int) < (l.bunches.length : Int)) := by omega
    try have e2 : ¬ ((4:Int) < (l.counts.length : Int)) := by omega
    first
      | (simp [out_nat, h16, h28, e1, e2]; done)
      | (simp [out_nat, h16, h28, e1]; done)
      | (simp [out_nat, h16, h28]; done)
   ·
    try simp only [Bool.not_eq_true', Bool.not_eq_false', decide_eq_true_eq, decide_eq_false_iff_not, Int.not_lt, Int.not_le] at h28
    refine w_seq (fun K32 hK31 => ?_)
    refine w_region ?_
    refine w_pure want_none (y_fieldAddr (o := 1) (i := 1) Try.underlying26 rfl Try.sizeOf23 rfl rfl rfl) rfl ?_
    refine w_pure want_none (y_load1 Try.isAgg23 hs23 rfl rfl (ats_own (i := 1) (vs := [_]) rfl rfl)) rfl ?_
    refine w_pure want_none (y_lenS Try.underlying23 rfl rfl) rfl ?_
    refine w_pure want_none (y_gtr rfl rfl rfl rfl) rfl ?_
    refine w_pure want_none (y_assign (v := .bool _) rfl rfl) rfl ?_
    refine w_nil ?_
    refine q_then (hK31 _ _ ?_)
    refine w_cond rfl rfl (fun h33 => ?_) (fun h33 => ?_)
    ·
     try simp only [Bool.not_eq_true', Bool.not_eq_false', decide_eq_true_eq, decide_eq_false_iff_not, Int.not_lt, Int.not_le] at h33
     refine w_seq (fun K35 hK34 => ?_)
     refine w_region ?_
     refine w_pure want_none (y_assign (v := _) rfl rfl) rfl ?_
     refine w_pure want_none (y_assign (v := _) rfl rfl) rfl ?_
     refine w_pure want_none (y_assign (v := _) rfl rfl) rfl ?_
     refine w_nil ?_
     refine q_then (hK34 _ _ ?_)
     refine w_ret ?_
     refine q_blk_ret ?_
     refine q_then_ret ?_
     refine q_ret (l := [.tmp 2, .tmp 3, .tmp 4]) (vs := [_, _, _]) rfl ⟨⟨rfl, show _ = (.int _ _ : Value) from rfl⟩, ⟨rfl, show _ = (.int _ _ : Value) from rfl⟩, ⟨rfl, show _ = (.int _ _ : Value) from rfl⟩, trivial⟩ ?_
     try simp only [List.any_cons, List.any_nil, Bool.or_false, Bool.or_eq_false_iff] at h16 h28 h33
     refine ⟨tup3 ?_, hs23.tail.tail⟩; unfold check failE
     try have e1 : ¬ ((6:Int) < (l.bunches.length : Int)) := by omega
     try have e2 : ¬ ((4:Int) < (l.counts.length : Int)) := by omega
     first
       | (simp [out_nat, h16, h28, h33, e1, e2]; done)
       | (simp [out_nat, h16, h28, h33, e1]; done)
       | (simp [out_nat, h16, h28, h33]; done)
    ·
     try simp only [Bool.not_eq_true', Bool.not_eq_false', decide_eq_true_eq, decide_eq_false_iff_not, Int.not_lt, Int.not_le] at h33
     refine w_skip ?_
     refine q_blk_normal ?_
     refine q_then (hK24 _ _ ?_)
     refine w_seq (fun K37 hK36 => ?_)
     refine w_region ?_
     refine w_pure want_none (y_fieldAddr (o := 1) (i := 1) Try.underlying26 rfl Try.sizeOf23 rfl rfl rfl) rfl ?_
     refine w_pure want_none (y_load1 Try.isAgg23 hs23 rfl rfl (ats_own (i := 1) (vs := [_]) rfl rfl)) rfl ?_
     refine w_call want_none Try.call61 rfl rfl rfl rfl (c61 (F := _ :: ((b3, blk 26 (l.cells p)) :: F)) _ _ l.bunches hlb hm.b.cons.cons (.func (.func 62) #[] #[]) bunchE (fun i hi X w hs => fcon_fn Try.call62 (c62 (F := X ++ (_ :: ((b3, blk 26 (l.cells p)) :: F))) i l.bunches[i] _ hs)) hs23) ?_
     rintro _ w39 ⟨rfl, hs40⟩
     refine w_pure want_none (y_move (v := .tuple _) rfl rfl) rfl ?_
     refine w_pure want_none (y_extract (v := .int _ _) rfl rfl rfl) rfl ?_
     refine w_pure want_none (y_extract (v := .int _ _) rfl rfl rfl) rfl ?_
     refine w_pure want_none (y_assign (v := .int _ _) rfl rfl) rfl ?_
     refine w_pure want_none (y_assign (v := .int _ _) rfl rfl) rfl ?_
     refine w_nil ?_
     refine q_then (hK36 _ _ ?_)
     refine w_seq (fun K42 hK41 => ?_)
     refine w_block ?_
     refine w_seq (fun K44 hK43 => ?_)
     refine w_region ?_
     refine w_pure want_none (y_move (v := .int _ _) rfl rfl) rfl ?_
     refine w_pure want_none (y_neq rfl rfl rfl rfl) rfl ?_
     refine w_pure want_none (y_assign (v := .bool _) rfl rfl) rfl ?_
     refine w_nil ?_
     refine q_then (hK43 _ _ ?_)
     refine w_cond rfl rfl (fun h45 => ?_) (fun h45 => ?_)
     ·
      try simp only [Bool.not_eq_true', Bool.not_eq_false', decide_eq_true_eq, decide_eq_false_iff_not, Int.not_lt, Int.not_le] at h45
      refine w_seq (fun K47 hK46 => ?_)
      refine w_region ?_
      refine w_pure want_none (y_move (v := .int _ _) rfl rfl) rfl ?_
      refine w_pure want_none (y_move (v := .int _ _) rfl rfl) rfl ?_
      refine w_pure want_none (y_assign (v := _) rfl rfl) rfl ?_
      refine w_pure want_none (y_assign (v := .int _ _) rfl rfl) rfl ?_
      refine w_pure want_none (y_assign (v := .int _ _) rfl rfl) rfl ?_
      refine w_nil ?_
      refine q_then (hK46 _ _ ?_)
      refine w_ret ?_
      refine q_blk_ret ?_
      refine q_then_ret ?_
      refine q_ret (l := [.tmp 2, .tmp 3, .tmp 4]) (vs := [_, _, _]) rfl ⟨⟨rfl, show _ = (.int _ _ : Value) from rfl⟩, ⟨rfl, show _ = (.int _ _ : Value) from rfl⟩, ⟨rfl, show _ = (.int _ _ : Value) from rfl⟩, trivial⟩ ?_
      try simp only [List.any_cons, List.any_nil, Bool.or_false, Bool.or_eq_false_iff] at h16 h28 h33 h45
      refine ⟨tup3 ?_, hs40.tail.tail⟩; unfold check failE
      try have e1 : ¬ ((6:Int) < (l.bunches.length : Int)) := by omega
      try have e2 : ¬ ((4:Int) < (l.counts.length : Int)) := by omega
      first
        | (simp [out_nat, h16, h28, h33, h45, e1, e2]; done)
        | (simp [out_nat, h16, h28, h33, h45, e1]; done)
        | (simp [out_nat, h16, h28, h33, h45]; done)
     ·
      try simp only [Bool.not_eq_true', Bool.not_eq_false', decide_eq_true_eq, decide_eq_false_iff_not, Int.not_lt, Int.not_le] at h45
      refine w_seq (fun K49 hK48 => ?_)
      refine w_region ?_
      refine w_pure want_none (y_fieldAddr (o := 2) (i := 2) Try.underlying26 rfl Try.sizeOf24 rfl rfl rfl) rfl ?_
      refine w_pure want_none (y_load1 Try.isAgg24 hs40 rfl rfl (ats_own (i := 1) (vs := [_]) rfl rfl)) rfl ?_
      refine w_pure want_none (y_lenS Try.underlying24 rfl rfl) rfl ?_
      refine w_pure want_none (y_gtr rfl rfl rfl rfl) rfl ?_
      refine w_pure want_none (y_assign (v := .bool _) rfl rfl) rfl ?_
      refine w_nil ?_
      refine q_then (hK48 _ _ ?_)
      refine w_cond rfl rfl (fun h50 => ?_) (fun h50 => ?_)
      ·
       try simp only [Bool.not_eq_true', Bool.not_eq_false', decide_eq_true_eq, decide_eq_false_iff_not, Int.not_lt, Int.not_le] at h50
       refine w_seq (fun K52 hK51 => ?_)
       refine w_region ?_
       refine w_pure want_none (y_assign (v := _) rfl rfl) rfl ?_
       refine w_pure want_none (y_assign (v := _) rfl rfl) rfl ?_
       refine w_pure want_none (y_assign (v := _) rfl rfl) rfl ?_
       refine w_nil ?_
       refine q_then (hK51 _ _ ?_)
       refine w_ret ?_
       refine q_blk_ret ?_
       refine q_then_ret ?_
       refine q_ret (l := [.tmp 2, .tmp 3, .tmp 4]) (vs := [_, _, _]) rfl ⟨⟨rfl, show _ = (.int _ _ : Value) from rfl⟩, ⟨rfl, show _ = (.int _ _ : Value) from rfl⟩, ⟨rfl, show _ = (.int _ _ : Value) from rfl⟩, trivial⟩ ?_
       try simp only [List.any_cons, List.any_nil, Bool.or_false, Bool.or_eq_false_iff] at h16 h28 h33 h45 h50
       refine ⟨tup3 ?_, hs40.tail.tail⟩; unfold check failE
       try have e1 : ¬ ((6:Int) < (l.bunches.length : Int)) := by omega
       try have e2 : ¬ ((4:Int) < (l.counts.length : Int)) := by omega
       first
         | (simp [out_nat, h16, h28, h33, h45, h50, e1, e2]; done)
         | (simp [out_nat, h16, h28, h33, h45, h50, e1]; done)
         | (simp [out_nat, h16, h28, h33, h45, h50]; done)
      ·
       try simp only [Bool.not_eq_true', Bool.not_eq_false', decide_eq_true_eq, decide_eq_false_iff_not, Int.not_lt, Int.not_le] at h50
       refine w_skip ?_
       refine q_blk_normal ?_
       refine q_then (hK41 _ _ ?_)
       refine w_seq (fun K54 hK53 => ?_)
       refine w_region ?_
       refine w_pure want_none (y_fieldAddr (o := 2) (i := 2) Try.underlying26 rfl Try.sizeOf24 rfl rfl rfl) rfl ?_
       refine w_pure want_none (y_load1 Try.isAgg24 hs40 rfl rfl (ats_own (i := 1) (vs := [_]) rfl rfl)) rfl ?_
       refine w_pure want_none (y_makeFunc (fv := []) (cv := [_]) rfl rfl rfl rfl) rfl ?_
       refine w_call want_none Try.call63 rfl rfl rfl rfl (c63 (F := _ :: ((b3, blk 26 (l.cells p)) :: F)) _ _ l.counts hlc hm.c.cons.cons (.func (.func 64) #[] #[.pointer (some ⟨b3, 0, none⟩)]) (countE l.bunches.length) (fun i hi X w hs => fcon_fn Try.call64 (c64 (F := X ++ (_ :: ((b3, blk 26 (l.cells p)) :: F))) l p hm.cons.cons.app (by omega) i l.counts[i] _ _ (Ats.app (Ats.cons (ats_own (i := 0) (vs := l.cells p) rfl rfl))) hs)) hs40) ?_
       rintro _ w56 ⟨rfl, hs57⟩
       refine w_pure want_none (y_move (v := .tuple _) rfl rfl) rfl ?_
       refine w_pure want_none (y_extract (v := .int _ _) rfl rfl rfl) rfl ?_
       refine w_pure want_none (y_extract (v := .int _ _) rfl rfl rfl) rfl ?_
       refine w_pure want_none (y_assign (v := .int _ _) rfl rfl) rfl ?_
       refine w_pure want_none (y_assign (v := .int _ _) rfl rfl) rfl ?_
       refine w_nil ?_
       refine q_then (hK53 _ _ ?_)
       refine w_seq (fun K59 hK58 => ?_)
       refine w_seq (fun K61 hK60 => ?_)
       refine w_region ?_
       refine w_pure want_none (y_move (v := .int _ _) rfl rfl) rfl ?_
       refine w_pure want_none (y_neq rfl rfl rfl rfl) rfl ?_
       refine w_nil ?_
       refine q_then (hK60 _ _ ?_)
       refine w_cond rfl rfl (fun h62 => ?_) (fun h62 => ?_)
       ·
        try simp only [Bool.not_eq_true', Bool.not_eq_false', decide_eq_true_eq, decide_eq_false_iff_not, Int.not_lt, Int.not_le] at h62
        refine w_seq (fun K64 hK63 => ?_)
        refine w_region ?_
        refine w_pure want_none (y_move (v := .int _ _) rfl rfl) rfl ?_
        refine w_pure want_none (y_move (v := .int _ _) rfl rfl) rfl ?_
        refine w_pure want_none (y_assign (v := _) rfl rfl) rfl ?_
        refine w_pure want_none (y_assign (v := .int _ _) rfl rfl) rfl ?_
        refine w_pure want_none (y_assign (v := .int _ _) rfl rfl) rfl ?_
        refine w_nil ?_
        refine q_then (hK63 _ _ ?_)
        refine w_ret ?_
        refine q_then_ret ?_
        refine q_ret (l := [.tmp 2, .tmp 3, .tmp 4]) (vs := [_, _, _]) rfl ⟨⟨rfl, show _ = (.int _ _ : Value) from rfl⟩, ⟨rfl, show _ = (.int _ _ : Value) from rfl⟩, ⟨rfl, show _ = (.int _ _ : Value) from rfl⟩, trivial⟩ ?_
        try simp only [List.any_cons, List.any_nil, Bool.or_false, Bool.or_eq_false_iff] at h16 h28 h33 h45 h50 h62
        refine ⟨tup3 ?_, hs57.tail.tail⟩; unfold check failE
        try have e1 : ¬ ((6:Int) < (l.bunches.length : Int)) := by omega
        try have e2 : ¬ ((4:Int) < (l.counts.length : Int)) := by omega
        first
          | (simp [out_nat, h16, h28, h33, h45, h50, h62, e1, e2]; done)
          | (simp [out_nat, h16, h28, h33, h45, h50, h62, e1]; done)
          | (simp [out_nat, h16, h28, h33, h45, h50, h62]; done)
       ·
        try simp only [Bool.not_eq_true', Bool.not_eq_false', decide_eq_true_eq, decide_eq_false_iff_not, Int.not_lt, Int.not_le] at h62
        refine w_skip ?_
        refine q_then (hK58 _ _ ?_)
        refine w_seq (fun K66 hK65 => ?_)
        refine w_region ?_
        refine w_pure want_none (y_assign (v := _) rfl rfl) rfl ?_
        refine w_pure want_none (y_assign (v := _) rfl rfl) rfl ?_
        refine w_pure want_none (y_assign (v := _) rfl rfl) rfl ?_
        refine w_nil ?_
        refine q_then (hK65 _ _ ?_)
        refine w_ret ?_
        refine q_ret (l := [.tmp 2, .tmp 3, .tmp 4]) (vs := [_, _, _]) rfl ⟨⟨rfl, show _ = (.int _ _ : Value) from rfl⟩, ⟨rfl, show _ = (.int _ _ : Value) from rfl⟩, ⟨rfl, show _ = (.int _ _ : Value) from rfl⟩, trivial⟩ ?_
        try simp only [List.any_cons, List.any_nil, Bool.or_false, Bool.or_eq_false_iff] at h16 h28 h33 h45 h50 h62
        refine ⟨tup3 ?_, hs57.tail.tail⟩; unfold check failE
        try have e1 : ¬ ((6:Int) < (l.bunches.length : Int)) := by omega
        try have e2 : ¬ ((4:Int) < (l.counts.length : Int)) := by omega
        first
          | (simp [out_nat, h16, h28, h33, h45, h50, h62, e1, e2]; done)
          | (simp [out_nat, h16, h28, h33, h45, h50, h62, e1]; done)
          | (simp [out_nat, h16, h28, h33, h45, h50, h62]; done)

end Go.Proofs
/- The hand layer's arguments, opened; what a law that holds leaves behind. No conditions. -/
set_option maxRecDepth 100000
set_option linter.unusedSimpArgs false
set_option linter.unusedVariables false
namespace Go.Proofs.Ytiemgahjdgajmaa
open Go.Rt Go.Rt.Ha Go.RowKit Go.ChangeShapes Go.WideShapes Go.ChangeAt
instance : Inhabited Grade := ⟨⟨ByteArray.empty, 0, 0⟩⟩
instance : Inhabited Bunch := ⟨⟨0, 0, 0, 0⟩⟩
instance : Inhabited Count := ⟨⟨0, 0⟩⟩
theorem Try.own : ownKnob Try.prog.godebug = none := by kernel_rfl
theorem Try.laidOut : laidOutB Try.prog = true := by kernel_rfl
theorem cells79 : Try.prog.cellsOf 79 = 3 := by kernel_rfl
theorem cells81 : Try.prog.cellsOf 81 = 4 := by kernel_rfl
theorem cells51 : Try.prog.cellsOf 51 = 2 := by kernel_rfl
theorem cells34 : Try.prog.cellsOf 34 = 2 := by kernel_rfl
theorem cells26 : Try.prog.cellsOf 26 = 3 := by kernel_rfl
theorem cells22 : Try.prog.cellsOf 22 = 1 := by kernel_rfl
theorem cells23 : Try.prog.cellsOf 23 = 1 := by kernel_rfl
theorem cells24 : Try.prog.cellsOf 24 = 1 := by kernel_rfl
theorem cells3 : Try.prog.cellsOf 3 = 1 := by kernel_rfl
theorem cells9 : Try.prog.cellsOf 9 = 1 := by kernel_rfl
variable {H : Type} {enc : TypeId × Value → H} {W : World} {sp : Nat → Bool} {held : Bool}
theorem i64_wf {n : Int} (h : (Lit.int .i64 n).wf = true) : -9223372036854775808 ≤ n ∧ n ≤ 9223372036854775807 := by
  simp only [Lit.wf, Bool.and_eq_true, decide_eq_true_eq] at h
  exact h
theorem u8_wf {n : Int} (h : (Lit.int .u8 n).wf = true) : 0 ≤ n ∧ n ≤ 255 := by
  simp only [Lit.wf, Bool.and_eq_true, decide_eq_true_eq] at h
  exact h
theorem u16_wf {n : Int} (h : (Lit.int .u16 n).wf = true) : 0 ≤ n ∧ n ≤ 65535 := by
  simp only [Lit.wf, Bool.and_eq_true, decide_eq_true_eq] at h
  exact h
theorem open_span {fuel : Nat} {cs : List Value} {x : DataW H × List MemPlace} (h : DataW.trod enc Try.prog W 0 sp held fuel 34 cs = some x) : ∃ a b : Int, cs = [.int .i64 a, .int .i64 b] := by
  have hl := trod_len Try.underlying34 h
  rw [cells34] at hl
  obtain ⟨n, y, h0⟩ := trod_field Try.underlying34 h 0 3 0 1 rfl rfl rfl cells3
  obtain ⟨n1, y1, h1⟩ := trod_field Try.underlying34 h 1 3 1 1 rfl rfl rfl cells3
  match cs, hl with
  | [c0, c1], _ =>
    obtain ⟨a, e0⟩ := trod_i64 Try.underlying3 h0
    obtain ⟨b, e1⟩ := trod_i64 Try.underlying3 h1
    simp at e0 e1
    exact ⟨a, b, by rw [e0, e1]⟩
theorem open_grade (fuel : Nat) (cs : List Value) (y : DataW H × List MemPlace) (h : DataW.trod enc Try.prog W 0 sp held fuel 79 cs = some y) : ∃ f : Grade, cs = f.cells ∧ f.name.size ≤ 9223372036854775807 := by
  have hl := trod_len Try.underlying79 h
  rw [cells79] at hl
  obtain ⟨_, _, h0⟩ := trod_field Try.underlying79 h 0 9 0 1 rfl rfl rfl cells9
  obtain ⟨_, _, h1⟩ := trod_field Try.underlying79 h 1 3 1 1 rfl rfl rfl cells3
  obtain ⟨_, _, h2⟩ := trod_field Try.underlying79 h 2 3 2 1 rfl rfl rfl cells3
  match cs, hl with
  | [c0, c1, c2], _ =>
    obtain ⟨s, e0, _, hs⟩ := DataW.trod_string Try.underlying9 h0
    obtain ⟨x1, e1⟩ := trod_i64 Try.underlying3 h1
    obtain ⟨x2, e2⟩ := trod_i64 Try.underlying3 h2
    simp at e0 e1 e2
    exact ⟨⟨s, x1, x2⟩, by rw [e0, e1, e2]; rfl, by simpa [maxLen] using hs⟩
theorem open_bunch (fuel : Nat) (cs : List Value) (y : DataW H × List MemPlace) (h : DataW.trod enc Try.prog W 0 sp held fuel 81 cs = some y) : ∃ f : Bunch, cs = f.cells ∧ True := by
  have hl := trod_len Try.underlying81 h
  rw [cells81] at hl
  obtain ⟨_, _, h0⟩ := trod_field Try.underlying81 h 0 34 0 2 rfl rfl rfl cells34
  obtain ⟨_, _, h1⟩ := trod_field Try.underlying81 h 1 34 2 2 rfl rfl rfl cells34
  match cs, hl with
  | [c0, c1, c2, c3], _ =>
    obtain ⟨x0, x1, e0⟩ := open_span h0
    obtain ⟨x2, x3, e1⟩ := open_span h1
    simp at e0 e1
    exact ⟨⟨x0, x1, x2, x3⟩, by rw [e0.1, e0.2, e1.1, e1.2]; rfl, trivial⟩
theorem open_count (fuel : Nat) (cs : List Value) (y : DataW H × List MemPlace) (h : DataW.trod enc Try.prog W 0 sp held fuel 51 cs = some y) : ∃ f : Count, cs = f.cells ∧ True := by
  have hl := trod_len Try.underlying51 h
  rw [cells51] at hl
  obtain ⟨_, _, h0⟩ := trod_field Try.underlying51 h 0 3 0 1 rfl rfl rfl cells3
  obtain ⟨_, _, h1⟩ := trod_field Try.underlying51 h 1 3 1 1 rfl rfl rfl cells3
  match cs, hl with
  | [c0, c1], _ =>
    obtain ⟨x0, e0⟩ := trod_i64 Try.underlying3 h0
    obtain ⟨x1, e1⟩ := trod_i64 Try.underlying3 h1
    simp at e0 e1
    exact ⟨⟨x0, x1⟩, by rw [e0, e1]; rfl, trivial⟩
theorem open_lot {v : Value} {d : DataW H} {ps : List MemPlace} {r : Reach} {b0 : Nat} (hval : Value.okWide Try.prog W r b0 26 v) (h : DataW.Trod enc Try.prog W 0 sp held 26 v d ps) :
    ∃ (m : Lot) (p : At3), v = .agg (m.cells p).toArray ∧ LIn W [] m p := by
  obtain ⟨xs, rfl, hsz⟩ : ∃ xs, v = .agg xs ∧ xs.size = 3 := by
    unfold Value.okWide at hval
    rw [Try.underlying26] at hval
    obtain ⟨cs, h1, h2, _⟩ := hval
    exact ⟨cs, h1, by rw [h2, cells26]⟩
  obtain ⟨fuel, hf⟩ := h
  have hf2 : DataW.trod enc Try.prog W 0 sp held fuel 26 xs.toList = some (d, ps) := hf
  obtain ⟨_, _, h0⟩ := trod_field Try.underlying26 hf2 0 22 0 1 rfl rfl rfl cells22
  obtain ⟨_, _, h1⟩ := trod_field Try.underlying26 hf2 1 23 1 1 rfl rfl rfl cells23
  obtain ⟨_, _, h2⟩ := trod_field Try.underlying26 hf2 2 24 2 1 rfl rfl rfl cells24
  obtain ⟨xl, rfl⟩ : ∃ l : List Value, xs = l.toArray := ⟨xs.toList, by simp⟩
  have hl3 : xl.length = 3 := by simpa using hsz
  match xl, hl3 with
  | [c0, c1, c2], _ =>
    obtain ⟨a, ca, la, e0, hsa, hca, hma, hna⟩ := open_rows (row := Grade.cells) (ok := fun f => f.name.size ≤ 9223372036854775807) Try.underlying22 cells79 (by omega) (fun _ => rfl) open_grade h0
    obtain ⟨b, cb, lb, e1, hsb, hcb, hmb, hnb⟩ := open_rows (row := Bunch.cells) (ok := fun f => True) Try.underlying23 cells81 (by omega) (fun _ => rfl) open_bunch h1
    obtain ⟨c, cc, lc, e2, hsc, hcc, hmc, hnc⟩ := open_rows (row := Count.cells) (ok := fun f => True) Try.underlying24 cells51 (by omega) (fun _ => rfl) open_count h2
    simp at e0 e1 e2
    exact ⟨⟨la, lb, lc⟩, ⟨a, ca, b, cb, c, cc⟩, by rw [e0, e1, e2]; rfl, ⟨hsa, hsb, hsc, hma, hmb, hmc, hca, hcb, hcc, hna⟩⟩
theorem slice_nil {fuel : Nat} {t el : TypeId} {a : Option Addr} {n c : Nat} {y : DataW H × List MemPlace} (ht : Try.prog.underlying t = some (.slice el)) (h : DataW.trod enc Try.prog W 0 sp held fuel t [.slice a n c] = some y) : a = none → c = 0 := by
  rcases DataW.trod_slice ht h with ⟨hcs, _⟩ | ⟨a', len, cap, elems, rest, m, _, hcs, _⟩
  · have e : Value.slice a n c = .slice none 0 0 := (List.cons.inj hcs).1
    injection e with e1 e2 e3
    exact fun _ => e3
  · have e : Value.slice a n c = .slice (some a') len cap := (List.cons.inj hcs).1
    injection e with e1 e2 e3
    exact fun h => (by rw [h] at e1; cases e1)
theorem lot_nil {m : Lot} {p : At3} {d : DataW H} {ps : List MemPlace} (h : DataW.Trod enc Try.prog W 0 sp held 26 (.agg (m.cells p).toArray) d ps) : (p.ag = none → p.cg = 0) ∧ (p.ab = none → p.cb = 0) ∧ (p.ac = none → p.cc = 0) := by
  obtain ⟨fuel, hf⟩ := h
  have hf2 : DataW.trod enc Try.prog W 0 sp held fuel 26 (m.cells p) = some (d, ps) := hf
  obtain ⟨_, _, h0⟩ := trod_field Try.underlying26 hf2 0 22 0 1 rfl rfl rfl cells22
  obtain ⟨_, _, h1⟩ := trod_field Try.underlying26 hf2 1 23 1 1 rfl rfl rfl cells23
  obtain ⟨_, _, h2⟩ := trod_field Try.underlying26 hf2 2 24 2 1 rfl rfl rfl cells24
  exact ⟨slice_nil Try.underlying22 h0, slice_nil Try.underlying23 h1, slice_nil Try.underlying24 h2⟩
end Go.Proofs.Ytiemgahjdgajmaa
/- Arguments of flat types, opened. No conditions. -/
set_option maxRecDepth 100000
set_option linter.unusedSimpArgs false
set_option linter.unusedVariables false
namespace Go.Proofs.Ytiemgahjdgajmaa
open Go.Rt Go.RowKit Go.ChangeShapes Go.WideShapes Go.ChangeAt
variable {H : Type} {enc : TypeId × Value → H} {W : World} {sp : Nat → Bool} {held : Bool}
theorem cel3 {fuel : Nat} {cs : List Value} {y : DataW H × List MemPlace} (h : DataW.trod enc Try.prog W 0 sp held fuel 3 cs = some y) : ∃ (x0 : Int), cs = [.int .i64 x0] ∧ (-9223372036854775808 ≤ x0 ∧ x0 ≤ 9223372036854775807) := by
  obtain ⟨n, e, _, hw⟩ := DataW.trod_int Try.underlying3 h
  exact ⟨n, e, i64_wf hw⟩
theorem opn3 {v : Value} {d : DataW H} {ps : List MemPlace} {r : Reach} {b0 : Nat} (hval : Value.okWide Try.prog W r b0 3 v) (h : DataW.Trod enc Try.prog W 0 sp held 3 v d ps) : ∃ x0 : Int, v = .int .i64 x0 ∧ (-9223372036854775808 ≤ x0 ∧ x0 ≤ 9223372036854775807) := by
  obtain ⟨z, rfl⟩ := okWide_int Try.underlying3 hval
  obtain ⟨fuel, hf⟩ := h
  obtain ⟨n, e, hr⟩ := cel3 hf
  have e2 : ([Value.int .i64 z] : List Value) = [.int .i64 n] := e
  cases e2
  exact ⟨z, rfl, hr⟩
theorem cel9 {fuel : Nat} {cs : List Value} {y : DataW H × List MemPlace} (h : DataW.trod enc Try.prog W 0 sp held fuel 9 cs = some y) : ∃ (x0 : ByteArray), cs = [.string x0] ∧ x0.size ≤ 9223372036854775807 := by
  obtain ⟨s, e0, _, hs⟩ := DataW.trod_string Try.underlying9 h
  exact ⟨s, e0, by simpa [maxLen] using hs⟩
theorem opn9 {v : Value} {d : DataW H} {ps : List MemPlace} {r : Reach} {b0 : Nat} (hval : Value.okWide Try.prog W r b0 9 v) (h : DataW.Trod enc Try.prog W 0 sp held 9 v d ps) : ∃ x0 : ByteArray, v = .string x0 ∧ x0.size ≤ 9223372036854775807 := by
  obtain ⟨z, rfl⟩ := okWide_string Try.underlying9 hval
  obtain ⟨fuel, hf⟩ := h
  obtain ⟨n, e, hr⟩ := cel9 hf
  have e2 : ([Value.string z] : List Value) = [.string n] := e
  cases e2
  exact ⟨z, rfl, hr⟩
theorem cells44 : Try.prog.cellsOf 44 = 2 := by kernel_rfl
theorem cel44 {fuel : Nat} {cs : List Value} {y : DataW H × List MemPlace} (h : DataW.trod enc Try.prog W 0 sp held fuel 44 cs = some y) : ∃ (x0 : Int) (x1 : Int), cs = [.int .i64 x0, .int .i64 x1] ∧ (-9223372036854775808 ≤ x0 ∧ x0 ≤ 9223372036854775807) ∧ (-9223372036854775808 ≤ x1 ∧ x1 ≤ 9223372036854775807) := by
  obtain ⟨ys, m, _, _, hl, hll, he⟩ := DataW.trod_array Try.underlying44 h
  rw [cells44] at hl
  rw [cells3] at he
  have h0 := he 0 (by omega)
  rw [List.getElem?_eq_getElem (by omega)] at h0
  have h1 := he 1 (by omega)
  rw [List.getElem?_eq_getElem (by omega)] at h1
  match cs, hl with
  | [c0, c1], _ =>
    obtain ⟨x0, e0, f0_0⟩ := cel3 h0
    obtain ⟨x1, e1, f1_0⟩ := cel3 h1
    simp at e0 e1
    exact ⟨x0, x1, by simp [e0, e1], f0_0, f1_0⟩
theorem opn44 {v : Value} {d : DataW H} {ps : List MemPlace} {r : Reach} {b0 : Nat} (hval : Value.okWide Try.prog W r b0 44 v) (h : DataW.Trod enc Try.prog W 0 sp held 44 v d ps) : ∃ (x0 : Int) (x1 : Int), v = .agg #[.int .i64 x0, .int .i64 x1] ∧ (-9223372036854775808 ≤ x0 ∧ x0 ≤ 9223372036854775807) ∧ (-9223372036854775808 ≤ x1 ∧ x1 ≤ 9223372036854775807) := by
  obtain ⟨xs, rfl, hsz⟩ : ∃ xs, v = .agg xs ∧ xs.size = 2 := by
    unfold Value.okWide at hval
    rw [Try.underlying44] at hval
    obtain ⟨cs, h1, h2, _⟩ := hval
    exact ⟨cs, h1, by rw [h2, cells44]⟩
  obtain ⟨fuel, hf⟩ := h
  have hf2 : DataW.trod enc Try.prog W 0 sp held fuel 44 xs.toList = some (d, ps) := hf
  obtain ⟨xl, rfl⟩ : ∃ l : List Value, xs = l.toArray := ⟨xs.toList, by simp⟩
  obtain ⟨x0, x1, e, hr⟩ := cel44 hf2
  exact ⟨x0, x1, by rw [show xl = _ from e], hr⟩
theorem cel53 {fuel : Nat} {cs : List Value} {y : DataW H × List MemPlace} (h : DataW.trod enc Try.prog W 0 sp held fuel 53 cs = some y) : ∃ (x0 : Int), cs = [.int .u16 x0] ∧ (0 ≤ x0 ∧ x0 ≤ 65535) := by
  obtain ⟨n, e, _, hw⟩ := DataW.trod_int Try.underlying53 h
  exact ⟨n, e, u16_wf hw⟩
theorem opn53 {v : Value} {d : DataW H} {ps : List MemPlace} {r : Reach} {b0 : Nat} (hval : Value.okWide Try.prog W r b0 53 v) (h : DataW.Trod enc Try.prog W 0 sp held 53 v d ps) : ∃ x0 : Int, v = .int .u16 x0 ∧ (0 ≤ x0 ∧ x0 ≤ 65535) := by
  obtain ⟨z, rfl⟩ := okWide_int Try.underlying53 hval
  obtain ⟨fuel, hf⟩ := h
  obtain ⟨n, e, hr⟩ := cel53 hf
  have e2 : ([Value.int .u16 z] : List Value) = [.int .u16 n] := e
  cases e2
  exact ⟨z, rfl, hr⟩
theorem cel5 {fuel : Nat} {cs : List Value} {y : DataW H × List MemPlace} (h : DataW.trod enc Try.prog W 0 sp held fuel 5 cs = some y) : ∃ (x0 : Int), cs = [.int .u8 x0] ∧ (0 ≤ x0 ∧ x0 ≤ 255) := by
  obtain ⟨n, e, _, hw⟩ := DataW.trod_int Try.underlying5 h
  exact ⟨n, e, u8_wf hw⟩
theorem cells5 : Try.prog.cellsOf 5 = 1 := by kernel_rfl
theorem opn54 {v : Value} {d : DataW H} {ps : List MemPlace} {r : Reach} {b0 : Nat} (hval : Value.okWide Try.prog W r b0 54 v) (h : DataW.Trod enc Try.prog W 0 sp held 54 v d ps) : ∃ (a : Option Addr) (c : Nat) (l : List Int), v = .slice a l.length c ∧ l.length ≤ 9223372036854775807 ∧ Sl W [] a 1 (l.map fun x => [Value.int .u8 x]) ∧ (∀ x ∈ l, (0 ≤ x ∧ x ≤ 255)) ∧ l.length ≤ c := by
  obtain ⟨a0, len, cap, rfl⟩ := okWide_slice Try.underlying54 hval
  obtain ⟨fuel, hf⟩ := h
  obtain ⟨a, c, l, e, hsl, hc, hm, hr⟩ := open_rows (row := fun x : Int => [Value.int .u8 x]) (ok := fun x => (0 ≤ x ∧ x ≤ 255)) Try.underlying54 cells5 (by omega) (fun _ => rfl) (fun fuel cs y h => cel5 h) hf
  have e2 : ([Value.slice a0 len cap] : List Value) = [.slice a l.length c] := e
  exact ⟨a, c, l, (List.cons.inj e2).1, hm, hsl, hr, hc⟩
theorem opn5 {v : Value} {d : DataW H} {ps : List MemPlace} {r : Reach} {b0 : Nat} (hval : Value.okWide Try.prog W r b0 5 v) (h : DataW.Trod enc Try.prog W 0 sp held 5 v d ps) : ∃ x0 : Int, v = .int .u8 x0 ∧ (0 ≤ x0 ∧ x0 ≤ 255) := by
  obtain ⟨z, rfl⟩ := okWide_int Try.underlying5 hval
  obtain ⟨fuel, hf⟩ := h
  obtain ⟨n, e, hr⟩ := cel5 hf
  have e2 : ([Value.int .u8 z] : List Value) = [.int .u8 n] := e
  cases e2
  exact ⟨z, rfl, hr⟩
theorem cel51 {fuel : Nat} {cs : List Value} {y : DataW H × List MemPlace} (h : DataW.trod enc Try.prog W 0 sp held fuel 51 cs = some y) : ∃ (x0 : Int) (x1 : Int), cs = [.int .i64 x0, .int .i64 x1] ∧ (-9223372036854775808 ≤ x0 ∧ x0 ≤ 9223372036854775807) ∧ (-9223372036854775808 ≤ x1 ∧ x1 ≤ 9223372036854775807) := by
  have hl := trod_len Try.underlying51 h
  rw [cells51] at hl
  obtain ⟨_, _, h0⟩ := trod_field Try.underlying51 h 0 3 0 1 rfl rfl rfl cells3
  obtain ⟨_, _, h1⟩ := trod_field Try.underlying51 h 1 3 1 1 rfl rfl rfl cells3
  match cs, hl with
  | [c0, c1], _ =>
    obtain ⟨x0, e0, f0_0⟩ := cel3 h0
    obtain ⟨x1, e1, f1_0⟩ := cel3 h1
    simp at e0 e1
    exact ⟨x0, x1, by simp [e0, e1], f0_0, f1_0⟩
theorem opn51 {v : Value} {d : DataW H} {ps : List MemPlace} {r : Reach} {b0 : Nat} (hval : Value.okWide Try.prog W r b0 51 v) (h : DataW.Trod enc Try.prog W 0 sp held 51 v d ps) : ∃ (x0 : Int) (x1 : Int), v = .agg #[.int .i64 x0, .int .i64 x1] ∧ (-9223372036854775808 ≤ x0 ∧ x0 ≤ 9223372036854775807) ∧ (-9223372036854775808 ≤ x1 ∧ x1 ≤ 9223372036854775807) := by
  obtain ⟨xs, rfl, hsz⟩ : ∃ xs, v = .agg xs ∧ xs.size = 2 := by
    unfold Value.okWide at hval
    rw [Try.underlying51] at hval
    obtain ⟨cs, h1, h2, _⟩ := hval
    exact ⟨cs, h1, by rw [h2, cells51]⟩
  obtain ⟨fuel, hf⟩ := h
  have hf2 : DataW.trod enc Try.prog W 0 sp held fuel 51 xs.toList = some (d, ps) := hf
  obtain ⟨xl, rfl⟩ : ∃ l : List Value, xs = l.toArray := ⟨xs.toList, by simp⟩
  obtain ⟨x0, x1, e, hr⟩ := cel51 hf2
  exact ⟨x0, x1, by rw [show xl = _ from e], hr⟩
theorem cells77 : Try.prog.cellsOf 77 = 4 := by kernel_rfl
theorem cel77 {fuel : Nat} {cs : List Value} {y : DataW H × List MemPlace} (h : DataW.trod enc Try.prog W 0 sp held fuel 77 cs = some y) : ∃ (x0 : Int) (x1 : Int) (x2 : Int) (x3 : Int), cs = [.int .u8 x0, .int .u8 x1, .int .u8 x2, .int .u8 x3] ∧ (0 ≤ x0 ∧ x0 ≤ 255) ∧ (0 ≤ x1 ∧ x1 ≤ 255) ∧ (0 ≤ x2 ∧ x2 ≤ 255) ∧ (0 ≤ x3 ∧ x3 ≤ 255) := by
  obtain ⟨ys, m, _, _, hl, hll, he⟩ := DataW.trod_array Try.underlying77 h
  rw [cells77] at hl
  rw [cells5] at he
  have h0 := he 0 (by omega)
  rw [List.getElem?_eq_getElem (by omega)] at h0
  have h1 := he 1 (by omega)
  rw [List.getElem?_eq_getElem (by omega)] at h1
  have h2 := he 2 (by omega)
  rw [List.getElem?_eq_getElem (by omega)] at h2
  have h3 := he 3 (by omega)
  rw [List.getElem?_eq_getElem (by omega)] at h3
  match cs, hl with
  | [c0, c1, c2, c3], _ =>
    obtain ⟨x0, e0, f0_0⟩ := cel5 h0
    obtain ⟨x1, e1, f1_0⟩ := cel5 h1
    obtain ⟨x2, e2, f2_0⟩ := cel5 h2
    obtain ⟨x3, e3, f3_0⟩ := cel5 h3
    simp at e0 e1 e2 e3
    exact ⟨x0, x1, x2, x3, by simp [e0, e1, e2, e3], f0_0, f1_0, f2_0, f3_0⟩
theorem opn77 {v : Value} {d : DataW H} {ps : List MemPlace} {r : Reach} {b0 : Nat} (hval : Value.okWide Try.prog W r b0 77 v) (h : DataW.Trod enc Try.prog W 0 sp held 77 v d ps) : ∃ (x0 : Int) (x1 : Int) (x2 : Int) (x3 : Int), v = .agg #[.int .u8 x0, .int .u8 x1, .int .u8 x2, .int .u8 x3] ∧ (0 ≤ x0 ∧ x0 ≤ 255) ∧ (0 ≤ x1 ∧ x1 ≤ 255) ∧ (0 ≤ x2 ∧ x2 ≤ 255) ∧ (0 ≤ x3 ∧ x3 ≤ 255) := by
  obtain ⟨xs, rfl, hsz⟩ : ∃ xs, v = .agg xs ∧ xs.size = 4 := by
    unfold Value.okWide at hval
    rw [Try.underlying77] at hval
    obtain ⟨cs, h1, h2, _⟩ := hval
    exact ⟨cs, h1, by rw [h2, cells77]⟩
  obtain ⟨fuel, hf⟩ := h
  have hf2 : DataW.trod enc Try.prog W 0 sp held fuel 77 xs.toList = some (d, ps) := hf
  obtain ⟨xl, rfl⟩ : ∃ l : List Value, xs = l.toArray := ⟨xs.toList, by simp⟩
  obtain ⟨x0, x1, x2, x3, e, hr⟩ := cel77 hf2
  exact ⟨x0, x1, x2, x3, by rw [show xl = _ from e], hr⟩
theorem cells83 : Try.prog.cellsOf 83 = 2 := by kernel_rfl
theorem cel83 {fuel : Nat} {cs : List Value} {y : DataW H × List MemPlace} (h : DataW.trod enc Try.prog W 0 sp held fuel 83 cs = some y) : ∃ (x0 : Int) (x1 : Int), cs = [.int .u8 x0, .int .u8 x1] ∧ (0 ≤ x0 ∧ x0 ≤ 255) ∧ (0 ≤ x1 ∧ x1 ≤ 255) := by
  obtain ⟨ys, m, _, _, hl, hll, he⟩ := DataW.trod_array Try.underlying83 h
  rw [cells83] at hl
  rw [cells5] at he
  have h0 := he 0 (by omega)
  rw [List.getElem?_eq_getElem (by omega)] at h0
  have h1 := he 1 (by omega)
  rw [List.getElem?_eq_getElem (by omega)] at h1
  match cs, hl with
  | [c0, c1], _ =>
    obtain ⟨x0, e0, f0_0⟩ := cel5 h0
    obtain ⟨x1, e1, f1_0⟩ := cel5 h1
    simp at e0 e1
    exact ⟨x0, x1, by simp [e0, e1], f0_0, f1_0⟩
theorem opn83 {v : Value} {d : DataW H} {ps : List MemPlace} {r : Reach} {b0 : Nat} (hval : Value.okWide Try.prog W r b0 83 v) (h : DataW.Trod enc Try.prog W 0 sp held 83 v d ps) : ∃ (x0 : Int) (x1 : Int), v = .agg #[.int .u8 x0, .int .u8 x1] ∧ (0 ≤ x0 ∧ x0 ≤ 255) ∧ (0 ≤ x1 ∧ x1 ≤ 255) := by
  obtain ⟨xs, rfl, hsz⟩ : ∃ xs, v = .agg xs ∧ xs.size = 2 := by
    unfold Value.okWide at hval
    rw [Try.underlying83] at hval
    obtain ⟨cs, h1, h2, _⟩ := hval
    exact ⟨cs, h1, by rw [h2, cells83]⟩
  obtain ⟨fuel, hf⟩ := h
  have hf2 : DataW.trod enc Try.prog W 0 sp held fuel 83 xs.toList = some (d, ps) := hf
  obtain ⟨xl, rfl⟩ : ∃ l : List Value, xs = l.toArray := ⟨xs.toList, by simp⟩
  obtain ⟨x0, x1, e, hr⟩ := cel83 hf2
  exact ⟨x0, x1, by rw [show xl = _ from e], hr⟩
end Go.Proofs.Ytiemgahjdgajmaa
/- Plain words of lists in their order, and of all sets of some numbers, for all layers. No conditions. -/
set_option linter.unusedSimpArgs false
set_option linter.unusedVariables false
namespace Go.Rt
def hasI (l : List Int) (z : Int) : Bool := l.any fun y => decide (y = z)
theorem hasI_succ {l : List Int} {z : Int} {i : Nat} (hi : i < l.length) : hasI (l.take (i + 1)) z = (hasI (l.take i) z || decide (l[i] = z)) := by
  unfold hasI; rw [List.take_succ_eq_append_getElem hi, List.any_append]; simp
theorem hasI_mem {l : List Int} {z : Int} : hasI l z = true ↔ z ∈ l := by simp [hasI]
/-- The numbers below n that are not in a list. -/
def othersTo (l : List Int) : Nat → List Int
  | 0 => []
  | i + 1 => if hasI l i then othersTo l i else othersTo l i ++ [(i : Int)]
theorem othersTo_yes {l : List Int} {i : Nat} (h : hasI l i = true) : othersTo l (i + 1) = othersTo l i := by simp [othersTo, h]
theorem othersTo_no {l : List Int} {i : Nat} (h : hasI l i = false) : othersTo l (i + 1) = othersTo l i ++ [(i : Int)] := by simp [othersTo, h]
theorem othersTo_len (l : List Int) : ∀ i, (othersTo l i).length ≤ i
  | 0 => by simp [othersTo]
  | i + 1 => by have := othersTo_len l i; unfold othersTo; split <;> simp <;> omega
/-! ### The order of lists -/
theorem less_trans : ∀ (a b c : List Int), less a b = true → less b c = true → less a c = true
  | a, [], _, h, _ => by cases a <;> simp [less] at h
  | _, _ :: _, [], _, h => by simp [less] at h
  | [], _ :: _, _ :: _, _, _ => rfl
  | x :: a, y :: b, z :: c, h1, h2 => by
    simp only [less] at h1 h2 ⊢
    by_cases e1 : x = y
    · subst e1
      simp only [if_true] at h1
      by_cases e2 : x = z
      · subst e2; simp only [if_true] at h2 ⊢; exact less_trans a b c h1 h2
      · rw [if_neg e2] at h2 ⊢; exact h2
    · rw [if_neg e1] at h1
      by_cases e2 : y = z
      · subst e2; rw [if_neg e1]; exact h1
      · rw [if_neg e2] at h2
        simp only [decide_eq_true_eq] at h1 h2
        rw [if_neg (by omega)]; simp only [decide_eq_true_eq]; omega
theorem less_asymm {a b : List Int} (h : less a b = true) : less b a = false := by
  cases hb : less b a with
  | false => rfl
  | true => have := less_trans a b a h hb; rw [less_irrefl] at this; cases this
/-! ### All lists of ascending numbers -/
def leastN (x : List Int) : Int := match x.getLast? with | none => 0 | some z => z + 1
def nextTo (x : List Int) (n : Nat) : List (List Int) := ((List.range n).filter fun q : Nat => decide (leastN x ≤ (q : Int))).map fun q : Nat => x ++ [(q : Int)]
def choices (below : Nat) : Nat → List (List Int)
  | 0 => [[]]
  | i + 1 => (choices below i).flatMap fun x => nextTo x below
def chTo (below i k : Nat) : List (List Int) := ((choices below i).take k).flatMap fun x => nextTo x below
theorem chTo_zero (below i : Nat) : chTo below i 0 = [] := rfl
theorem chTo_all {below i k : Nat} (h : (choices below i).length ≤ k) : chTo below i k = choices below (i + 1) := by unfold chTo; rw [List.take_of_length_le h]; rfl
theorem chTo_succ {below i k : Nat} (h : k < (choices below i).length) : chTo below i (k + 1) = chTo below i k ++ nextTo ((choices below i)[k]) below := by
  unfold chTo; rw [List.take_succ_eq_append_getElem h, List.flatMap_append]; simp
theorem nextTo_none {x : List Int} {n : Nat} (h : (n : Int) ≤ leastN x) : nextTo x n = [] := by
  unfold nextTo
  rw [List.filter_eq_nil_iff.2]
  · rfl
  · intro q hq; rw [List.mem_range] at hq; simp; omega
theorem nextTo_succ {x : List Int} {n : Nat} (h : leastN x ≤ (n : Int)) : nextTo x (n + 1) = nextTo x n ++ [x ++ [(n : Int)]] := by
  unfold nextTo; rw [List.range_succ, List.filter_append, List.map_append]; simp [h]
theorem nextTo_len (x : List Int) (n : Nat) : (nextTo x n).length ≤ n := by
  unfold nextTo; rw [List.length_map]; have := List.length_filter_le (fun q : Nat => decide (leastN x ≤ (q : Int))) (List.range n); rwa [List.length_range] at this
theorem flat_le {α β : Type} {f : α → List β} {m : Nat} : ∀ (l : List α), (∀ x ∈ l, (f x).length ≤ m) → (l.flatMap f).length ≤ l.length * m
  | [], _ => by simp
  | a :: l, h => by
    rw [List.flatMap_cons, List.length_append, List.length_cons, Nat.succ_mul]
    have h1 := h a (.head _)
    have h2 := flat_le l fun x hx => h x (.tail _ hx)
    omega
theorem choices_small {below : Nat} (hb : below ≤ 11) : ∀ i, i ≤ 11 → (choices below i).length ≤ 11 ^ i
  | 0, _ => by simp [choices]
  | i + 1, hi => by
    have ih := choices_small hb i (by omega)
    have h1 := flat_le (m := below) (choices below i) (f := fun x => nextTo x below) fun x _ => nextTo_len x below
    rw [Nat.pow_succ]
    have : (choices below i).length * below ≤ 11 ^ i * 11 := Nat.mul_le_mul ih hb
    simp only [choices]; omega
theorem choices_max {below i : Nat} (hb : below ≤ 11) (hi : i ≤ 11) : (choices below i).length ≤ 285311670611 := by
  have h1 := choices_small hb i hi
  have h2 : 11 ^ i ≤ 11 ^ 11 := Nat.pow_le_pow_right (by omega) hi
  have h3 : (11 : Nat) ^ 11 = 285311670611 := by decide
  omega
theorem choices_len {below : Nat} : ∀ (i : Nat), ∀ x ∈ choices below i, x.length = i ∧ ∀ z ∈ x, 0 ≤ z ∧ z < below
  | 0, x, h => by simp [choices] at h; subst h; simp
  | i + 1, x, h => by
    simp only [choices, List.mem_flatMap] at h
    obtain ⟨y, hy, h⟩ := h
    have ih := choices_len i y hy
    unfold nextTo at h
    obtain ⟨q, hq, rfl⟩ := List.mem_map.1 h
    have hq := (List.mem_filter.1 hq).1
    rw [List.mem_range] at hq
    refine ⟨by simp [ih.1], fun z hz => ?_⟩
    rcases List.mem_append.1 hz with h | h
    · exact ih.2 z h
    · simp at h; omega
theorem leastN_nn {below i : Nat} {x : List Int} (h : x ∈ choices below i) : 0 ≤ leastN x ∧ leastN x ≤ below := by
  unfold leastN
  cases e : x.getLast? with
  | none => simp
  | some z => have := (choices_len i x h).2 z (List.mem_of_getLast? e); dsimp only; omega
theorem leastN_at {x : List Int} {i : Nat} (h : x.length = i) (hi : 0 < i) : leastN x = x[i - 1]'(by omega) + 1 := by
  unfold leastN; subst h; rw [List.getLast?_eq_getElem?, List.getElem?_eq_getElem (by omega)]
/-! ### All sets of some numbers -/
def pickL (shops l : List Int) : List Int := l.map fun z => shops.getD z.toNat 0
def setsMany (shops : List Int) (many : Nat) : List (List Int) := (choices shops.length many).map (pickL shops)
def setsTo (shops : List Int) : Nat → List (List Int)
  | 0 => []
  | k + 1 => setsTo shops k ++ setsMany shops k
def setsL (shops : List Int) : List (List Int) := setsTo shops (shops.length + 1)
theorem setsTo_len {shops : List Int} (h : shops.length ≤ 11) : ∀ k, k ≤ 12 → (setsTo shops k).length ≤ k * 285311670611
  | 0, _ => by simp [setsTo]
  | k + 1, hk => by
    have ih := setsTo_len h k (by omega)
    have h1 := choices_max (below := shops.length) (i := k) h (by omega)
    simp only [setsTo, setsMany, List.length_append, List.length_map]
    omega
theorem setsL_max {shops : List Int} (h : shops.length ≤ 11) : (setsL shops).length ≤ 3423740047332 := by
  have := setsTo_len h (shops.length + 1) (by omega)
  unfold setsL
  have h2 : (shops.length + 1) * 285311670611 ≤ 12 * 285311670611 := Nat.mul_le_mul (by omega) (by omega)
  omega
theorem pickL_len (shops x : List Int) : (pickL shops x).length = x.length := by simp [pickL]
theorem pickL_step {shops x : List Int} {j : Nat} (hj : j < x.length) (h : x[j].toNat < shops.length) : (pickL shops x).take (j + 1) = (pickL shops x).take j ++ [shops[x[j].toNat]] := by
  rw [List.take_succ_eq_append_getElem (by rw [pickL_len]; exact hj)]
  congr 2
  simp [pickL, List.getD, h]
theorem sets_step {shops : List Int} {k q : Nat} (h : q < (choices shops.length k).length) : setsTo shops k ++ ((choices shops.length k).take (q + 1)).map (pickL shops) = (setsTo shops k ++ ((choices shops.length k).take q).map (pickL shops)) ++ [pickL shops (choices shops.length k)[q]] := by
  rw [List.take_succ_eq_append_getElem h, List.map_append, List.append_assoc]; rfl
theorem setsTo_in {shops : List Int} : ∀ k, ∀ s ∈ setsTo shops k, s.length < k ∧ ∀ z ∈ s, z ∈ shops
  | 0, s, h => by simp [setsTo] at h
  | k + 1, s, h => by
    simp only [setsTo, List.mem_append] at h
    rcases h with h | h
    · have := setsTo_in k s h; exact ⟨by omega, this.2⟩
    · unfold setsMany at h
      obtain ⟨x, hx, rfl⟩ := List.mem_map.1 h
      have hc := choices_len k x hx
      refine ⟨by rw [pickL_len]; omega, fun z hz => ?_⟩
      unfold pickL at hz
      obtain ⟨y, hy, rfl⟩ := List.mem_map.1 hz
      have := hc.2 y hy
      have hl : y.toNat < shops.length := by omega
      simp only [List.getD, List.getElem?_eq_getElem hl, Option.getD_some]
      exact List.getElem_mem hl
theorem setsL_in {shops s : List Int} (h : s ∈ setsL shops) : s.length ≤ shops.length ∧ ∀ z ∈ s, z ∈ shops := by
  have := setsTo_in _ s h; exact ⟨by omega, this.2⟩
theorem setsL_pos (shops : List Int) : 1 ≤ (setsL shops).length := by
  have h : ∀ k, 1 ≤ (setsTo shops (k + 1)).length := by
    intro k
    induction k with
    | zero => simp [setsTo, setsMany, choices]
    | succ k ih => rw [setsTo, List.length_append]; omega
  exact h _
/-! ### Fewer, or as many that come before -/
namespace Ls
def before (a b : List Int) : Bool := decide (a.length < b.length) || (decide (a.length = b.length) && less a b)
theorem before_irrefl (a : List Int) : before a a = false := by simp [before, less_irrefl]
theorem before_trans {a b c : List Int} (h1 : before a b = true) (h2 : before b c = true) : before a c = true := by
  unfold before at *
  simp only [Bool.or_eq_true, Bool.and_eq_true, decide_eq_true_eq] at *
  rcases h1 with h1 | ⟨h1, h1'⟩ <;> rcases h2 with h2 | ⟨h2, h2'⟩
  · left; omega
  · left; omega
  · left; omega
  · right; exact ⟨by omega, less_trans _ _ _ h1' h2'⟩
theorem before_asymm {a b : List Int} (h : before a b = true) : before b a = false := by
  cases hb : before b a with
  | false => rfl
  | true => have := before_trans h hb; rw [before_irrefl] at this; cases this
theorem before_total {a b : List Int} (h1 : before a b = false) (h2 : before b a = false) : a = b := by
  unfold before at *
  simp only [Bool.or_eq_false_iff, Bool.and_eq_false_iff, decide_eq_false_iff_not] at *
  have hl : a.length = b.length := by omega
  have e1 : less a b = false := by rcases h1.2 with h | h; omega; exact h
  have e2 : less b a = false := by rcases h2.2 with h | h; omega; exact h
  exact less_both a b hl e1 e2
end Ls
end Go.Rt
/- Plain laws of the hand layer: the first of the fewest. No conditions. -/
set_option linter.unusedSimpArgs false
set_option linter.unusedVariables false
namespace Go.Rt.Ha
theorem before_ls (a b : List Int) : before a b = Ls.before a b := rfl
theorem sets_pairwise : ∀ n < 7, ∀ sub < 64, sub < 2 ^ n → (setsL (listL sub n)).Pairwise fun a b => before a b = true := by decide +kernel
theorem sets_in : ∀ n < 7, ∀ sub < 64, sub < 2 ^ n → ∀ l ∈ setsL (listL sub n), ∃ b, b < 2 ^ n ∧ (bitDiff b sub = 0 ∧ l = listL b n) := by
  have h : ∀ n < 7, ∀ sub < 64, sub < 2 ^ n → ∀ l ∈ setsL (listL sub n), ((List.range (2 ^ n)).any fun b => decide (bitDiff b sub = 0 ∧ l = listL b n)) = true := by decide +kernel
  intro n hn sub hs hs2 l hl
  obtain ⟨b, hb, hd⟩ := List.any_eq_true.1 (h n hn sub hs hs2 l hl)
  exact ⟨b, by simpa using hb, by simpa using hd⟩
theorem sets_all : ∀ n < 7, ∀ sub < 64, sub < 2 ^ n → ∀ b < 2 ^ n, bitDiff b sub = 0 → listL b n ∈ setsL (listL sub n) := by
  have h : ∀ n < 7, ∀ sub < 64, sub < 2 ^ n → ((List.range (2 ^ n)).all fun b => !decide (bitDiff b sub = 0) || decide (listL b n ∈ setsL (listL sub n))) = true := by decide +kernel
  intro n hn sub hs hs2 b hb hd
  have := List.all_eq_true.1 (h n hn sub hs hs2) b (by simpa using hb)
  simpa [hd] using this
/-- What the program has after some sets. -/
structure FewS (do_ : Nat → Bool) (n k : Nat) (s : List Int × Bool) : Prop where
  no : s.2 = false → s.1 = [] ∧ ∀ b < k, do_ b = false
  yes : s.2 = true → ∃ b, b < k ∧ do_ b = true ∧ s.1 = listL b n ∧ ∀ c < k, do_ c = true → listL c n = s.1 ∨ before s.1 (listL c n) = true
theorem few_min (do_ : Nat → Bool) (n : Nat) : ∀ k, FewS do_ n k (fewTo do_ n k)
  | 0 => ⟨fun _ => ⟨rfl, fun b h => by omega⟩, fun h => by cases h⟩
  | k + 1 => by
    have ih := few_min do_ n k
    simp only [fewTo]
    generalize fewTo do_ n k = s at ih
    obtain ⟨l, f⟩ := s
    unfold fewStep
    cases f with
    | false =>
      have h1 := ih.no rfl
      simp only [Bool.false_and, Bool.false_eq_true, if_false]
      cases hd : do_ k with
      | false =>
        simp only [Bool.false_eq_true, if_false]
        refine ⟨fun _ => ⟨h1.1, fun b hb => ?_⟩, fun h => by cases h⟩
        by_cases e : b = k
        · subst e; exact hd
        · exact h1.2 b (by omega)
      | true =>
        simp only [if_true]
        refine ⟨(fun h => by cases h), fun _ => ⟨k, by omega, hd, rfl, fun c hc hdc => ?_⟩⟩
        by_cases e : c = k
        · subst e; exact .inl rfl
        · rw [h1.2 c (by omega)] at hdc; cases hdc
    | true =>
      obtain ⟨b, hb, hdb, e1, hm⟩ := ih.yes rfl
      simp only at e1 hm
      simp only [Bool.true_and]
      cases hbf : before l (listL k n) with
      | true =>
        simp only [if_true]
        refine ⟨(fun h => by cases h), fun _ => ⟨b, by omega, hdb, e1, fun c hc hdc => ?_⟩⟩
        by_cases e : c = k
        · subst e; exact .inr hbf
        · exact hm c (by omega) hdc
      | false =>
        simp only [Bool.false_eq_true, if_false]
        cases hd : do_ k with
        | false =>
          simp only [Bool.false_eq_true, if_false]
          refine ⟨(fun h => by cases h), fun _ => ⟨b, by omega, hdb, e1, fun c hc hdc => ?_⟩⟩
          by_cases e : c = k
          · subst e; rw [hd] at hdc; cases hdc
          · exact hm c (by omega) hdc
        | true =>
          simp only [if_true]
          refine ⟨(fun h => by cases h), fun _ => ⟨k, by omega, hd, rfl, fun c hc hdc => ?_⟩⟩
          by_cases e : c = k
          · subst e; exact .inl rfl
          · have hkl : l = listL k n ∨ before (listL k n) l = true := by
              cases hb2 : before (listL k n) l with
              | true => exact .inr rfl
              | false => exact .inl (Ls.before_total hbf hb2)
            rcases hm c (by omega) hdc with h | h
            · rw [h]; rcases hkl with h2 | h2
              · exact .inl h2
              · exact .inr h2
            · rcases hkl with h2 | h2
              · rw [← h2]; exact .inr h
              · exact .inr (Ls.before_trans h2 h)
theorem find_min {p : List Int → Bool} : ∀ (L : List (List Int)), L.Pairwise (fun a b => before a b = true) → ∀ l, L.find? p = some l → l ∈ L ∧ p l = true ∧ ∀ c ∈ L, p c = true → c = l ∨ before l c = true
  | [], _, l, h => by cases h
  | x :: L, hp, l, h => by
    rw [List.pairwise_cons] at hp
    rw [List.find?_cons] at h
    cases hx : p x with
    | true =>
      rw [hx] at h
      injection h with h
      subst h
      refine ⟨.head _, hx, fun c hc _ => ?_⟩
      cases hc with
      | head => exact .inl rfl
      | tail _ hc => exact .inr (hp.1 c hc)
    | false =>
      rw [hx] at h
      obtain ⟨h1, h2, h3⟩ := find_min L hp.2 l h
      refine ⟨.tail _ h1, h2, fun c hc hpc => ?_⟩
      cases hc with
      | head => rw [hx] at hpc; cases hpc
      | tail _ hc => exact h3 c hc hpc
/-- The program's first of the fewest is the reference's. -/
theorem fewest_find {do_ : Nat → Bool} {p : List Int → Bool} {n sub : Nat} (hn : n ≤ 6) (hs : sub < 2 ^ n) (hd : ∀ b, b < 2 ^ n → do_ b = (decide (bitDiff b sub = 0) && p (listL b n))) :
    fewest do_ n = match (setsL (listL sub n)).find? p with | some l => (l, true) | none => ([], false) := by
  have hs64 : sub < 64 := by
    have : 2 ^ n ≤ 2 ^ 6 := Nat.pow_le_pow_right (by omega) hn
    omega
  have e2 : 1 <<< n = 2 ^ n := by rw [Nat.shiftLeft_eq, Nat.one_mul]
  have hf := few_min do_ n (1 <<< n)
  have hp := sets_pairwise n (by omega) sub hs64 hs
  unfold fewest
  generalize hg : fewTo do_ n (1 <<< n) = s at hf
  obtain ⟨l, f⟩ := s
  rw [e2] at hf
  cases hq : (setsL (listL sub n)).find? p with
  | none =>
    have hnone := List.find?_eq_none.1 hq
    cases f with
    | false => have := (hf.no rfl).1; simp only at this; subst this; rfl
    | true =>
      obtain ⟨b, hb, hdb, e1, _⟩ := hf.yes rfl
      rw [hd b hb] at hdb
      simp only [Bool.and_eq_true, decide_eq_true_eq] at hdb
      exact absurd hdb.2 (hnone _ (sets_all n (by omega) sub hs64 hs b hb hdb.1))
  | some q =>
    obtain ⟨h1, h2, h3⟩ := find_min _ hp q hq
    obtain ⟨b, hb, hbd, rfl⟩ := sets_in n (by omega) sub hs64 hs q h1
    have hdo : do_ b = true := by rw [hd b hb, h2]; simp [hbd]
    cases f with
    | false => rw [(hf.no rfl).2 b hb] at hdo; cases hdo
    | true =>
      obtain ⟨c, hc, hdc, e1, hm⟩ := hf.yes rfl
      simp only at e1 hm
      subst e1
      rw [hd c hc] at hdc
      simp only [Bool.and_eq_true, decide_eq_true_eq] at hdc
      have := h3 _ (sets_all n (by omega) sub hs64 hs c hc hdc.1) hdc.2
      rcases this with h | h
      · rw [h]
      · rcases hm b hb hdo with h' | h'
        · rw [h']
        · have := Ls.before_asymm (show Ls.before _ _ = true from h); rw [show Ls.before _ _ = true from h'] at this; cases this
end Go.Rt.Ha
/- Plain laws of the hand layer: grades as lists and as bits, spans, sums. No conditions. -/
set_option linter.unusedSimpArgs false
set_option linter.unusedVariables false
namespace Go.Rt.Ha
theorem bit_iff (b j : Nat) : bit b j = 1 ↔ b.testBit j = true := by
  unfold bit Nat.testBit
  rw [Nat.and_comm 1, Nat.and_one_is_mod]
  have := Nat.mod_two_eq_zero_or_one (b >>> j)
  rcases this with h | h <;> rw [h] <;> simp
theorem one_shl (k : Nat) : 1 <<< k = 2 ^ k := by rw [Nat.shiftLeft_eq, Nat.one_mul]
theorem orG_test (gs : List Grade) (h : Int) (k : Nat) : ∀ ss : List Int, (orG gs h ss).testBit k = ss.any fun s => decide ((ofG gs 0 h s + 1).toNat = k)
  | [] => by simp [orG]
  | s :: ss => by rw [orG, Nat.testBit_or, orG_test gs h k ss, one_shl, Nat.testBit_two_pow, List.any_cons]
theorem ofG_range (h s : Int) : ∀ (gs : List Grade) (i : Int), 0 ≤ i → ofG gs i h s = -1 ∨ (i ≤ ofG gs i h s ∧ ofG gs i h s < i + gs.length)
  | [], _, _ => .inl rfl
  | g :: gs, i, hi => by
    unfold ofG
    split
    · right; simp only [List.length_cons]; omega
    · rcases ofG_range h s gs (i + 1) (by omega) with h | h
      · exact .inl h
      · right; simp only [List.length_cons]; omega
theorem ofG_ge (gs : List Grade) (h s : Int) : -1 ≤ ofG gs 0 h s := by rcases ofG_range h s gs 0 (by omega) with e | e <;> omega
/-- The reference's list of grades. -/
def gStep (gs : List Grade) (h : Int) (out : List Int) (s : Int) : List Int := if hasI out (ofG gs 0 h s) then out else out ++ [ofG gs 0 h s]
def gradesL (gs : List Grade) (h : Int) (ss : List Int) : List Int := ss.foldl (gStep gs h) []
theorem gStep_mem {gs : List Grade} {h : Int} {out : List Int} {s z : Int} : z ∈ gStep gs h out s ↔ z ∈ out ∨ ofG gs 0 h s = z := by
  unfold gStep
  split
  · rename_i hm
    rw [hasI_mem] at hm
    constructor
    · exact .inl
    · rintro (h | rfl)
      · exact h
      · exact hm
  · rw [List.mem_append, List.mem_singleton]
    constructor
    · rintro (h | rfl)
      · exact .inl h
      · exact .inr rfl
    · rintro (h | rfl)
      · exact .inl h
      · exact .inr rfl
theorem grades_mem {gs : List Grade} {h : Int} {z : Int} : ∀ (ss out : List Int), z ∈ ss.foldl (gStep gs h) out ↔ z ∈ out ∨ ∃ s ∈ ss, ofG gs 0 h s = z
  | [], out => by simp
  | s :: ss, out => by
    rw [List.foldl_cons, grades_mem ss, gStep_mem, or_assoc]
    simp
theorem gradesL_mem {gs : List Grade} {h : Int} {z : Int} {ss : List Int} : z ∈ gradesL gs h ss ↔ ∃ s ∈ ss, ofG gs 0 h s = z := by
  unfold gradesL; rw [grades_mem]; simp
theorem gStep_nodup {gs : List Grade} {h : Int} {out : List Int} {s : Int} (hn : out.Nodup) : (gStep gs h out s).Nodup := by
  unfold gStep
  split
  · exact hn
  · rename_i hm
    rw [hasI_mem] at hm
    rw [List.nodup_append]
    refine ⟨hn, by simp, fun a ha b hb => ?_⟩
    rw [List.mem_singleton] at hb
    subst hb
    rintro rfl
    exact hm ha
theorem gradesL_nodup (gs : List Grade) (h : Int) (ss : List Int) : (gradesL gs h ss).Nodup := by
  have : ∀ (ss out : List Int), out.Nodup → (ss.foldl (gStep gs h) out).Nodup := by
    intro ss
    induction ss with
    | nil => intro out h; exact h
    | cons s ss ih => intro out h; exact ih _ (gStep_nodup h)
  exact this ss [] (by simp)
theorem grades_has {gs : List Grade} {h g : Int} (hg : -1 ≤ g) (ss : List Int) : hasI (gradesL gs h ss) g = (orG gs h ss).testBit (g + 1).toNat := by
  rw [Bool.eq_iff_iff, hasI_mem, gradesL_mem, orG_test, List.any_eq_true]
  constructor
  · rintro ⟨s, hs, e⟩; exact ⟨s, hs, by simp [e]⟩
  · rintro ⟨s, hs, e⟩
    have := ofG_ge gs h s
    simp only [decide_eq_true_eq] at e
    exact ⟨s, hs, by omega⟩
/-- A bunch is of one grade only. -/
def onlyG (l : List Int) (g : Int) : Bool := decide (l.length = 1) && decide (l.getD 0 0 = g)
theorem only_iff {gs : List Grade} {h g : Int} {ss : List Int} (hne : ss ≠ []) : onlyG (gradesL gs h ss) g = true ↔ ∀ s ∈ ss, ofG gs 0 h s = g := by
  unfold onlyG
  simp only [Bool.and_eq_true, decide_eq_true_eq]
  constructor
  · rintro ⟨h1, h2⟩ s hs
    have hm := (gradesL_mem (gs := gs) (h := h) (ss := ss)).2 ⟨s, hs, rfl⟩
    obtain ⟨a, ha⟩ := List.length_eq_one_iff.1 h1
    rw [ha] at hm h2
    simp at hm h2
    rw [hm, h2]
  · intro hall
    have hsub : ∀ z ∈ gradesL gs h ss, z = g := by
      intro z hz
      obtain ⟨s, hs, rfl⟩ := gradesL_mem.1 hz
      exact hall s hs
    obtain ⟨s, hs⟩ := List.exists_mem_of_ne_nil _ hne
    have hm : g ∈ gradesL gs h ss := gradesL_mem.2 ⟨s, hs, hall s hs⟩
    have hnd := gradesL_nodup gs h ss
    generalize gradesL gs h ss = L at hsub hm hnd
    match L, hsub, hm, hnd with
    | [], _, hm, _ => cases hm
    | [a], hsub, _, _ => exact ⟨rfl, hsub a (.head _)⟩
    | a :: b :: L, hsub, _, hnd =>
      have e1 := hsub a (.head _)
      have e2 := hsub b (.tail _ (.head _))
      rw [e1, e2] at hnd
      simp at hnd
theorem orG_one {gs : List Grade} {h g : Int} {ss : List Int} (hne : ss ≠ []) (hg : -1 ≤ g) : orG gs h ss = 2 ^ (g + 1).toNat ↔ ∀ s ∈ ss, ofG gs 0 h s = g := by
  constructor
  · intro e s hs
    have h1 := orG_test gs h (ofG gs 0 h s + 1).toNat ss
    rw [e, Nat.testBit_two_pow] at h1
    have h2 : (ss.any fun q => decide ((ofG gs 0 h q + 1).toNat = (ofG gs 0 h s + 1).toNat)) = true := List.any_eq_true.2 ⟨s, hs, by simp⟩
    rw [h2] at h1
    have := ofG_ge gs h s
    simp only [decide_eq_true_eq] at h1
    omega
  · intro hall
    apply Nat.eq_of_testBit_eq
    intro k
    rw [orG_test, Nat.testBit_two_pow]
    obtain ⟨s, hs⟩ := List.exists_mem_of_ne_nil _ hne
    rw [Bool.eq_iff_iff, List.any_eq_true, decide_eq_true_eq]
    constructor
    · rintro ⟨q, hq, e⟩; rw [hall q hq] at e; simpa using e
    · intro e; exact ⟨s, hs, by rw [hall s hs]; simpa using e⟩
theorem only_or {gs : List Grade} {h g : Int} {ss : List Int} (hne : ss ≠ []) (hg : -1 ≤ g) : onlyG (gradesL gs h ss) g = decide (orG gs h ss = 2 ^ (g + 1).toNat) := by
  rw [Bool.eq_iff_iff, only_iff hne, decide_eq_true_eq, orG_one hne hg]
/-! ### Ways together -/
theorem setW_test (l : Lot) (b k : Nat) (ws : List (List Int)) : (setW l b ws).testBit k = ws.any fun h => (gradesB l (bunchOf l b) (at_ h b)).testBit k := by
  have : ∀ (ws : List (List Int)) (s : Nat), (ws.foldl (fun s h => s ||| gradesB l (bunchOf l b) (at_ h b)) s).testBit k = (s.testBit k || ws.any fun h => (gradesB l (bunchOf l b) (at_ h b)).testBit k) := by
    intro ws
    induction ws with
    | nil => intro s; simp
    | cons h ws ih => intro s; rw [List.foldl_cons, ih, Nat.testBit_or, List.any_cons, Bool.or_assoc]
  unfold setW
  rw [this]; simp
def scarsOf (l : Lot) (b : Nat) : List Int := spanL (bunchOf l b).slo (bunchOf l b).shi
def couldR (l : Lot) (ws : List (List Int)) (b : Nat) (g : Int) : Bool := ws.any fun h => hasI (gradesL l.grades (at_ h b) (scarsOf l b)) g
def mustR (l : Lot) (ws : List (List Int)) (b : Nat) (g : Int) : Bool := ws.all fun h => onlyG (gradesL l.grades (at_ h b) (scarsOf l b)) g
theorem could_bit (l : Lot) (ws : List (List Int)) (b : Nat) {g : Int} (hg : -1 ≤ g) : couldR l ws b g = (setW l b ws).testBit (g + 1).toNat := by
  rw [setW_test]
  unfold couldR gradesB
  congr 1
  funext h
  exact grades_has hg _
theorem must_one {l : Lot} {ws : List (List Int)} {b : Nat} (hne : scarsOf l b ≠ []) (hw : ws ≠ []) : mustR l ws b (-1) = decide (setW l b ws = 1) := by
  have key : ∀ h : List Int, onlyG (gradesL l.grades (at_ h b) (scarsOf l b)) (-1) = decide (gradesB l (bunchOf l b) (at_ h b) = 1) := fun h => only_or (gs := l.grades) (h := at_ h b) hne (Int.le_refl _)
  unfold mustR
  simp only [key]
  rw [Bool.eq_iff_iff, List.all_eq_true, decide_eq_true_eq]
  constructor
  · intro h
    apply Nat.eq_of_testBit_eq
    intro k
    rw [setW_test, Bool.eq_iff_iff, List.any_eq_true]
    obtain ⟨w, hw⟩ := List.exists_mem_of_ne_nil _ hw
    constructor
    · rintro ⟨x, hx, e⟩
      have := h x hx
      simp only [decide_eq_true_eq] at this
      rw [this] at e; exact e
    · intro e
      have := h w hw
      simp only [decide_eq_true_eq] at this
      exact ⟨w, hw, by rw [this]; exact e⟩
  · intro e x hx
    rw [decide_eq_true_eq]
    have hsub : ∀ k, (gradesB l (bunchOf l b) (at_ x b)).testBit k = true → k = 0 := by
      intro k hk
      have h1 := setW_test l b k ws
      rw [e, show (ws.any fun h => (gradesB l (bunchOf l b) (at_ h b)).testBit k) = true from List.any_eq_true.2 ⟨x, hx, hk⟩] at h1
      have h2 := Nat.testBit_two_pow (n := 0) (m := k)
      rw [Nat.pow_zero, h1] at h2
      simp at h2
      exact h2.symm
    have hall : ∀ s ∈ scarsOf l b, ofG l.grades 0 (at_ x b) s = -1 := by
      intro s hs
      have h1 := orG_test l.grades (at_ x b) (ofG l.grades 0 (at_ x b) s + 1).toNat (scarsOf l b)
      rw [show ((scarsOf l b).any fun q => decide ((ofG l.grades 0 (at_ x b) q + 1).toNat = (ofG l.grades 0 (at_ x b) s + 1).toNat)) = true from List.any_eq_true.2 ⟨s, hs, by simp⟩] at h1
      have h2 := hsub _ h1
      have h3 := ofG_ge l.grades (at_ x b) s
      omega
    exact (orG_one (gs := l.grades) (h := at_ x b) hne (Int.le_refl _)).2 hall
def gradeTo (l : Lot) (ws : List (List Int)) (b : Nat) : Nat → List Int
  | 0 => []
  | k + 1 => gradeTo l ws b k ++ if couldR l ws b ((k : Int) - 1) then [(k : Int) - 1] else []
theorem grade_list (l : Lot) (ws : List (List Int)) (b : Nat) : ∀ k, gradeTo l ws b k = (listL (setW l b ws) k).map (· - 1)
  | 0 => rfl
  | k + 1 => by
    rw [gradeTo, listL, List.map_append, grade_list l ws b k, could_bit l ws b (by omega), show (((k : Int) - 1) + 1).toNat = k by omega]
    congr 1
    by_cases h : (setW l b ws).testBit k = true
    · rw [if_pos h, if_pos ((bit_iff _ _).2 h)]; rfl
    · rw [if_neg h, if_neg (fun h' => h ((bit_iff _ _).1 h'))]; rfl
/-! ### Spans -/
def spanR (b : Nat) : List (List Int) → Int × Int
  | [] => (0, 0)
  | h :: r => r.foldl (joinS b) (at_ h b, at_ h b)
theorem span_same {b : Nat} : ∀ {ws : List (List Int)}, ws ≠ [] → (∀ h ∈ ws, 0 ≤ at_ h b ∧ at_ h b ≤ 12) → spanW b ws = spanR b ws
  | [], h, _ => absurd rfl h
  | h :: r, _, hb => by
    have := hb h (.head _)
    unfold spanW spanR
    rw [List.foldl_cons]
    congr 1
    unfold joinS
    ext <;> simp <;> omega
end Go.Rt.Ha
/- Plain laws of the hand layer: lots that are, their ways, totals. No conditions. -/
set_option linter.unusedSimpArgs false
set_option linter.unusedVariables false
namespace Go.Rt.Ha
structure Lot.Ok (l : Lot) : Prop where
  lg : 1 ≤ l.grades.length ∧ l.grades.length ≤ 4
  lb : l.bunches.length ≤ 6
  lc : l.counts.length ≤ 4
  grade : ∀ g ∈ l.grades, 1 ≤ g.hands ∧ g.hands ≤ 12 ∧ 0 ≤ g.scars ∧ g.scars ≤ 9
  bunch : ∀ b ∈ l.bunches, 1 ≤ b.lo ∧ b.lo ≤ b.hi ∧ b.hi ≤ 12 ∧ b.hi - b.lo ≤ 3 ∧ 0 ≤ b.slo ∧ b.slo ≤ b.shi ∧ b.shi ≤ 9
  count : ∀ c ∈ l.counts, 1 ≤ c.bits ∧ c.bits ≤ 2 ^ l.bunches.length - 1 ∧ 0 ≤ c.hands ∧ c.hands ≤ 72
theorem firstE_zero {α : Type} (err : List α → α → Int) : ∀ (l b : List α) (i : Int), (firstE err b i l).2 = 0 → ∀ k (h : k < l.length), err (b ++ l.take k) l[k] = 0
  | [], _, _, _, k, h => by simp at h
  | x :: l, b, i, h, k, hk => by
    unfold firstE at h
    by_cases he : err b x = 0
    · rw [if_pos he] at h
      match k with
      | 0 => simpa using he
      | k + 1 =>
        have := firstE_zero err l (b ++ [x]) (i + 1) h k (by simpa using hk)
        simpa using this
    · rw [if_neg he] at h
      exact absurd h he
theorem failE_zero {α : Type} {err : List α → α → Int} {lo most : Int} {l : List α} (h : (failE err lo most l).2 = 0) : (lo ≤ l.length ∧ (l.length : Int) ≤ most) ∧ ∀ k (h : k < l.length), err (l.take k) l[k] = 0 := by
  unfold failE at h
  split at h
  · cases h
  · rename_i ho
    unfold out at ho
    simp only [Bool.or_eq_true, decide_eq_true_eq, not_or] at ho
    exact ⟨by omega, fun k hk => by simpa using firstE_zero err l [] 0 h k hk⟩
theorem check_parts {l : Lot} (h : (check l).2.2 = 0) : (failE gradeE 1 4 l.grades).2 = 0 ∧ (failE bunchE 0 6 l.bunches).2 = 0 ∧ (failE (countE l.bunches.length) 0 4 l.counts).2 = 0 := by
  unfold check at h
  split at h
  · rename_i h1; exact absurd h h1
  · rename_i h1
    split at h
    · rename_i h2; exact absurd h h2
    · rename_i h2
      split at h
      · rename_i h3; exact absurd h h3
      · rename_i h3
        exact ⟨by omega, by omega, by omega⟩
theorem check_ok {l : Lot} (h : (check l).2.2 = 0) : l.Ok := by
  obtain ⟨h1, h2, h3⟩ := check_parts h
  have h1 := failE_zero h1
  have h2 := failE_zero h2
  have h3 := failE_zero h3
  refine ⟨by omega, by omega, by omega, fun g hg => ?_, fun b hb => ?_, fun c hc => ?_⟩
  · obtain ⟨k, hk, rfl⟩ := List.getElem_of_mem hg
    have := h1.2 k hk
    unfold gradeE out at this
    split at this
    · rename_i h; exact absurd this h
    · split at this
      · cases this
      · rename_i h
        simp only [Bool.or_eq_true, decide_eq_true_eq, not_or] at h
        omega
  · obtain ⟨k, hk, rfl⟩ := List.getElem_of_mem hb
    have := h2.2 k hk
    unfold bunchE out at this
    split at this
    · cases this
    · rename_i h
      simp only [Bool.or_eq_true, decide_eq_true_eq, not_or] at h
      split at this
      · cases this
      · rename_i h'
        simp only [Bool.or_eq_true, decide_eq_true_eq, not_or] at h'
        omega
  · obtain ⟨k, hk, rfl⟩ := List.getElem_of_mem hc
    have := h3.2 k hk
    unfold countE out at this
    split at this
    · cases this
    · rename_i h
      simp only [Bool.or_eq_true, decide_eq_true_eq, not_or] at h
      split at this
      · cases this
      · rename_i h'
        simp only [Bool.or_eq_true, decide_eq_true_eq, not_or] at h'
        omega
theorem upto_mem : ∀ (n : Nat) (lo z : Int), z ∈ upto lo n ↔ lo ≤ z ∧ z < lo + n
  | 0, lo, z => by simp [upto]
  | n + 1, lo, z => by
    rw [upto, List.mem_cons, upto_mem n (lo + 1) z]
    omega
theorem span_mem {lo hi z : Int} : z ∈ spanL lo hi ↔ lo ≤ z ∧ z ≤ hi := by
  unfold spanL; rw [upto_mem]; omega
theorem span_ne {lo hi : Int} (h : lo ≤ hi) : spanL lo hi ≠ [] := List.ne_nil_of_mem (span_mem.2 ⟨Int.le_refl lo, h⟩)
/-- What is felt. -/
theorem felt_in : ∀ (bs : List Bunch) (h : List Int), h ∈ felt bs ↔ h.length = bs.length ∧ ∀ i (hi : i < bs.length), bs[i].lo ≤ at_ h i ∧ at_ h i ≤ bs[i].hi
  | [], h => by simp [felt]
  | b :: bs, h => by
    simp only [felt, List.mem_flatMap, List.mem_map]
    constructor
    · rintro ⟨n, hn, r, hr, rfl⟩
      have ih := (felt_in bs r).1 hr
      refine ⟨by simp [ih.1], fun i hi => ?_⟩
      cases i with
      | zero => exact span_mem.1 hn
      | succ i => exact ih.2 i (by simpa using hi)
    · rintro ⟨h1, h2⟩
      cases h with
      | nil => simp at h1
      | cons n r =>
        refine ⟨n, span_mem.2 (h2 0 (by simp)), r, (felt_in bs r).2 ⟨by simpa using h1, fun i hi => h2 (i + 1) (by simpa using hi)⟩, rfl⟩
theorem felt_ne {bs : List Bunch} (h : ∀ b ∈ bs, b.lo ≤ b.hi) : felt bs ≠ [] := by
  refine List.ne_nil_of_mem ((felt_in bs (bs.map (·.lo))).2 ⟨by simp, fun i hi => ?_⟩)
  have : at_ (bs.map (·.lo)) i = bs[i].lo := by unfold at_; simp [List.getD, hi]
  rw [this]
  exact ⟨Int.le_refl _, h _ (List.getElem_mem hi)⟩
theorem way_felt {l : Lot} {but : Nat} {h : List Int} (hw : h ∈ ways l but) : h ∈ felt l.bunches := (List.mem_filter.1 hw).1
theorem bunch_at {l : Lot} {b : Nat} (h : b < l.bunches.length) : bunchOf l b = l.bunches[b] := by unfold bunchOf; simp [List.getD, h]
theorem way_at {l : Lot} (hok : l.Ok) {but : Nat} {h : List Int} (hw : h ∈ ways l but) {b : Nat} (hb : b < l.bunches.length) : 1 ≤ at_ h b ∧ at_ h b ≤ 12 ∧ (bunchOf l b).lo ≤ at_ h b ∧ at_ h b ≤ (bunchOf l b).hi := by
  have h1 := ((felt_in _ _).1 (way_felt hw)).2 b hb
  have h2 := hok.bunch _ (List.getElem_mem hb)
  rw [bunch_at hb]
  omega
theorem scars_ne {l : Lot} (hok : l.Ok) {b : Nat} (hb : b < l.bunches.length) : scarsOf l b ≠ [] := by
  have h2 := hok.bunch _ (List.getElem_mem hb)
  unfold scarsOf
  rw [bunch_at hb]
  exact span_ne h2.2.2.2.2.2.1
/-! ### Totals -/
def sumsR (l : Lot) (g : Int) (h : List Int) : Nat → Int × Int
  | 0 => (0, 0)
  | k + 1 => let s := sumsR l g h k; let z := gradesL l.grades (at_ h k) (scarsOf l k)
    if hasI z g then ((if z.length = 1 then s.1 + at_ h k else s.1), s.2 + at_ h k) else s
theorem has_only {L : List Int} {g : Int} : (hasI L g = true ∧ L.length = 1) ↔ onlyG L g = true := by
  unfold onlyG
  rw [hasI_mem, Bool.and_eq_true, decide_eq_true_eq, decide_eq_true_eq]
  constructor
  · rintro ⟨h1, h2⟩
    obtain ⟨a, rfl⟩ := List.length_eq_one_iff.1 h2
    simp at h1
    exact ⟨rfl, h1.symm⟩
  · rintro ⟨h1, h2⟩
    obtain ⟨a, rfl⟩ := List.length_eq_one_iff.1 h1
    simp at h2
    subst h2
    exact ⟨by simp, rfl⟩
theorem sums_same {l : Lot} (hok : l.Ok) (g : Nat) (h : List Int) : ∀ k, k ≤ l.bunches.length → sumsR l g h k = sumsTo l g h k
  | 0, _ => rfl
  | k + 1, hk => by
    have hne := scars_ne hok (b := k) (by omega)
    have e1 := grades_has (gs := l.grades) (h := at_ h k) (g := (g : Int)) (by omega) (scarsOf l k)
    have e2 := only_or (gs := l.grades) (h := at_ h k) (g := (g : Int)) hne (by omega)
    rw [show ((g : Int) + 1).toNat = g + 1 by omega] at e1 e2
    have e3 : (2 : Nat) <<< g = 2 ^ (g + 1) := by rw [Nat.shiftLeft_eq, Nat.pow_succ, Nat.mul_comm]
    simp only [sumsR, sumsTo]
    rw [sums_same hok g h k (by omega)]
    have ez : gradesB l (bunchOf l k) (at_ h k) = orG l.grades (at_ h k) (scarsOf l k) := rfl
    rw [ez, e3]
    by_cases ho : orG l.grades (at_ h k) (scarsOf l k) = 2 ^ (g + 1)
    · rw [if_pos ho]
      have h3 := has_only.2 (show onlyG _ (g : Int) = true by rw [e2]; simpa using ho)
      rw [if_pos h3.1, if_pos h3.2]
    · rw [if_neg ho]
      cases hh : hasI (gradesL l.grades (at_ h k) (scarsOf l k)) (g : Int) with
      | true =>
        rw [if_pos rfl, if_pos ((bit_iff _ _).2 (by rw [← e1]; exact hh))]
        rw [if_neg]
        intro h1
        have := has_only.1 ⟨hh, h1⟩
        rw [e2] at this
        exact ho (by simpa using this)
      | false =>
        rw [if_neg (by simp), if_neg]
        intro hb
        have := (bit_iff _ _).1 hb
        rw [← e1, hh] at this
        cases this
theorem sums_le {l : Lot} (g : Nat) {h : List Int} (hh : ∀ b, b < l.bunches.length → 0 ≤ at_ h b) : ∀ k, k ≤ l.bunches.length → 0 ≤ (sumsTo l g h k).1 ∧ (sumsTo l g h k).1 ≤ (sumsTo l g h k).2
  | 0, _ => by simp [sumsTo]
  | k + 1, hk => by
    have ih := sums_le g hh k (by omega)
    have := hh k (by omega)
    simp only [sumsTo]
    split
    · simp only; omega
    · split
      · simp only; omega
      · exact ih
def totStepR (l : Lot) (g : Int) (s : Int × Int) (h : List Int) : Int × Int := (min (min s.1 (sumsR l g h l.bunches.length).1) (sumsR l g h l.bunches.length).2, max (max s.2 (sumsR l g h l.bunches.length).1) (sumsR l g h l.bunches.length).2)
def totalR (l : Lot) (g : Int) (ws : List (List Int)) : Int × Int := ws.foldl (totStepR l g) (72, 0)
theorem total_same {l : Lot} (hok : l.Ok) (g : Nat) (but : Nat) : totalR l g (ways l but) = totalW l g (ways l but) := by
  have : ∀ (ws : List (List Int)) (s : Int × Int), (∀ h ∈ ws, h ∈ ways l but) → ws.foldl (totStepR l g) s = ws.foldl (fun s h => (min s.1 (sums l g h).1, max s.2 (sums l g h).2)) s := by
    intro ws
    induction ws with
    | nil => intro s _; rfl
    | cons h ws ih =>
      intro s hm
      rw [List.foldl_cons, List.foldl_cons, ← ih _ fun x hx => hm x (.tail _ hx)]
      congr 1
      have h1 := sums_le (l := l) g (h := h) (fun b hb => by have := way_at hok (hm h (.head _)) hb; omega) _ (Nat.le_refl _)
      unfold totStepR sums
      rw [sums_same hok g h _ (Nat.le_refl _)]
      ext <;> simp <;> omega
  exact this _ _ fun h hh => hh
end Go.Rt.Ha
/- Plain laws of the hand layer: Pick, Next and Wrong, as the reference has them. No conditions. -/
set_option linter.unusedSimpArgs false
set_option linter.unusedVariables false
namespace Go.Rt.Ha
/-! ### Pick -/
theorem setW_small {l : Lot} {b : Nat} {ws : List (List Int)} {k : Nat} (h : (setW l b ws).testBit k = true) : k ≤ l.grades.length := by
  rw [setW_test, List.any_eq_true] at h
  obtain ⟨x, _, h⟩ := h
  unfold gradesB at h
  rw [orG_test, List.any_eq_true] at h
  obtain ⟨s, _, h⟩ := h
  simp only [decide_eq_true_eq] at h
  have := ofG_range (at_ x b) s l.grades 0 (by omega)
  omega
/-- No grade from one to another. -/
def noneTo (l : Lot) (ws : List (List Int)) (b g : Nat) : Nat → Bool
  | 0 => !couldR l ws b (-1)
  | k + 1 => noneTo l ws b g k && !couldR l ws b ((g : Int) + 1 + k)
def fitR (l : Lot) (ws : List (List Int)) (g : Nat) : Nat → List Int
  | 0 => []
  | b + 1 => fitR l ws g b ++ if noneTo l ws b g (l.grades.length - (g + 1)) then [(b : Int)] else []
theorem none_iff (l : Lot) (ws : List (List Int)) (b g : Nat) : ∀ k, noneTo l ws b g k = true ↔ (setW l b ws).testBit 0 = false ∧ ∀ j, j < k → (setW l b ws).testBit (g + 2 + j) = false
  | 0 => by
    have := could_bit l ws b (g := -1) (by omega)
    simp only [noneTo, this, Bool.not_eq_true']
    constructor
    · intro h; exact ⟨h, fun j hj => by omega⟩
    · intro h; exact h.1
  | k + 1 => by
    have h1 := could_bit l ws b (g := (g : Int) + 1 + k) (by omega)
    rw [show ((g : Int) + 1 + k + 1).toNat = g + 2 + k by omega] at h1
    simp only [noneTo, Bool.and_eq_true, none_iff l ws b g k, h1, Bool.not_eq_true']
    constructor
    · rintro ⟨⟨a, c⟩, d⟩
      refine ⟨a, fun j hj => ?_⟩
      by_cases e : j = k
      · subst e; exact d
      · exact c j (by omega)
    · rintro ⟨a, c⟩
      exact ⟨⟨a, fun j hj => c j (by omega)⟩, c k (by omega)⟩
theorem fit_cond {l : Lot} {ws : List (List Int)} {b g : Nat} (hg : g < l.grades.length) : noneTo l ws b g (l.grades.length - (g + 1)) = true ↔ ¬ (setW l b ws &&& 1 = 1 ∨ 0 < setW l b ws >>> (g + 2)) := by
  rw [none_iff]
  have h0 : setW l b ws &&& 1 = 1 ↔ (setW l b ws).testBit 0 = true := by
    have := bit_iff (setW l b ws) 0
    unfold bit at this
    rwa [Nat.shiftRight_zero] at this
  have h1 : 0 < setW l b ws >>> (g + 2) ↔ ∃ j, (setW l b ws).testBit (g + 2 + j) = true := by
    constructor
    · intro h
      refine Classical.byContradiction fun hn => ?_
      have : setW l b ws >>> (g + 2) = 0 := by
        apply Nat.eq_of_testBit_eq
        intro i
        rw [Nat.testBit_shiftRight, Nat.zero_testBit]
        cases hb : (setW l b ws).testBit (g + 2 + i) with
        | false => rfl
        | true => exact absurd ⟨i, hb⟩ hn
      omega
    · rintro ⟨j, hj⟩
      refine Nat.pos_of_ne_zero fun h => ?_
      have := Nat.testBit_shiftRight (i := g + 2) (j := j) (setW l b ws)
      rw [h, Nat.zero_testBit, hj] at this
      cases this
  rw [h0, h1]
  constructor
  · rintro ⟨a, c⟩ (h | ⟨j, hj⟩)
    · rw [a] at h; cases h
    · have := setW_small hj
      rw [c j (by omega)] at hj; cases hj
  · intro h
    simp only [not_or, Bool.not_eq_true, not_exists] at h
    exact ⟨h.1, fun j _ => h.2 j⟩
theorem fit_lt (l : Lot) (g : Nat) (ws : List (List Int)) : ∀ k, fitTo l g ws k < 2 ^ k
  | 0 => by simp [fitTo]
  | k + 1 => by
    have ih := fit_lt l g ws k
    simp only [fitTo]
    split
    · rw [Nat.pow_succ]; omega
    · refine Nat.or_lt_two_pow (by rw [Nat.pow_succ]; omega) ?_
      rw [one_shl]; exact Nat.pow_lt_pow_right (by omega) (by omega)
theorem fit_bit (l : Lot) (g : Nat) (ws : List (List Int)) {j : Nat} : ∀ k, j < k → ((fitTo l g ws k).testBit j = true ↔ ¬ (setW l j ws &&& 1 = 1 ∨ 0 < setW l j ws >>> (g + 2)))
  | 0, h => by omega
  | k + 1, h => by
    simp only [fitTo]
    by_cases e : j = k
    · subst e
      have hl := fit_lt l g ws j
      have h0 : (fitTo l g ws j).testBit j = false := Nat.testBit_lt_two_pow hl
      split
      · rename_i hc; rw [h0]; exact ⟨fun h => (by cases h), fun h => absurd hc h⟩
      · rename_i hc; rw [Nat.testBit_or, one_shl, Nat.testBit_two_pow]; exact ⟨fun _ => hc, fun _ => by simp⟩
    · have ih := fit_bit l g ws (j := j) k (by omega)
      split
      · exact ih
      · rw [Nat.testBit_or, one_shl, Nat.testBit_two_pow, show decide (k = j) = false from by simpa using (Ne.symm e), Bool.or_false]; exact ih
theorem fit_list {l : Lot} {g : Nat} (hg : g < l.grades.length) (ws : List (List Int)) (n : Nat) : ∀ k, k ≤ n → fitR l ws g k = listL (fitTo l g ws n) k
  | 0, _ => rfl
  | k + 1, hk => by
    rw [fitR, listL, fit_list hg ws n k (by omega)]
    congr 1
    have h1 := fit_bit l g ws (j := k) n (by omega)
    have h2 := fit_cond (l := l) (ws := ws) (b := k) hg
    by_cases h : noneTo l ws k g (l.grades.length - (g + 1)) = true
    · rw [if_pos h, if_pos ((bit_iff _ _).2 (h1.2 (h2.1 h)))]
    · rw [if_neg h, if_neg fun hb => h (h2.2 (h1.1 ((bit_iff _ _).1 hb)))]
def leastR (ws : List (List Int)) (own : List Int) : Int := ws.foldl (fun s h => min s (someOf h own)) 72
theorem least_iff {many : Int} (hm : many ≤ 72) (own : List Int) (ws : List (List Int)) : many ≤ leastR ws own ↔ ∀ h ∈ ws, many ≤ someOf h own := by
  have : ∀ (ws : List (List Int)) (s : Int), many ≤ ws.foldl (fun s h => min s (someOf h own)) s ↔ many ≤ s ∧ ∀ h ∈ ws, many ≤ someOf h own := by
    intro ws
    induction ws with
    | nil => intro s; simp
    | cons h ws ih =>
      intro s
      rw [List.foldl_cons, ih]
      constructor
      · rintro ⟨a, b⟩
        refine ⟨by omega, fun x hx => ?_⟩
        cases hx with
        | head => omega
        | tail _ hx => exact b x hx
      · rintro ⟨a, b⟩
        have := b h (.head _)
        exact ⟨by omega, fun x hx => b x (.tail _ hx)⟩
  unfold leastR
  rw [this]
  exact ⟨fun h => h.2, fun h => ⟨hm, h⟩⟩
def pickR (l : Lot) (g many : Int) : List Int × Int :=
  if enterE l (pickE l g many) ≠ 0 then ([], enterE l (pickE l g many)) else
  match (setsL (fitR l (ways l 0) g.toNat l.bunches.length)).find? fun own => decide (many ≤ leastR (ways l 0) own) with | some x => (x, 0) | none => ([], 9)
theorem enterE_zero {l : Lot} {e : Int} (h : enterE l e = 0) : (check l).2.2 = 0 ∧ e = 0 ∧ ways l 0 ≠ [] := by
  unfold enterE at h
  split at h
  · rename_i h1; exact absurd h h1
  · rename_i h1
    split at h
    · rename_i h2; exact absurd h h2
    · rename_i h2
      split at h
      · cases h
      · rename_i h3; exact ⟨by omega, by omega, h3⟩
theorem idxE_zero {n : Int} {b : Nat} (h : idxE n b = 0) : 0 ≤ n ∧ n < b := by
  unfold idxE at h
  split at h
  · cases h
  · rename_i h1
    unfold out at h1
    simp only [Bool.or_eq_true, decide_eq_true_eq, not_or] at h1
    omega
theorem pickE_zero {l : Lot} {g many : Int} (h : pickE l g many = 0) : 0 ≤ g ∧ g < l.grades.length ∧ 0 ≤ many ∧ many ≤ 72 := by
  unfold pickE at h
  split at h
  · rename_i h1; exact absurd h h1
  · rename_i h1
    have := idxE_zero (n := g) (b := l.grades.length) (by omega)
    split at h
    · cases h
    · rename_i h2
      unfold out at h2
      simp only [Bool.or_eq_true, decide_eq_true_eq, not_or] at h2
      omega
theorem pick_same (l : Lot) (g many : Int) : pickR l g many = pickP l g many := by
  unfold pickR pickP
  by_cases he : enterE l (pickE l g many) ≠ 0
  · rw [if_pos he, if_pos he]
  · rw [if_neg he, if_neg he]
    have h1 := enterE_zero (Decidable.not_not.1 he)
    have hok := check_ok h1.1
    have h2 := pickE_zero h1.2.1
    have hfit := fit_list (l := l) (g := g.toNat) (by omega) (ways l 0) l.bunches.length _ (Nat.le_refl _)
    rw [hfit]
    have hf := fewest_find (do_ := pickDo l g.toNat many) (p := fun own => decide (many ≤ leastR (ways l 0) own)) (n := l.bunches.length) (sub := fitTo l g.toNat (ways l 0) l.bunches.length) hok.lb (fit_lt _ _ _ _) (fun b hb => by
      unfold pickDo
      congr 1
      rw [Bool.eq_iff_iff, List.all_eq_true, decide_eq_true_eq, least_iff h2.2.2.2]
      simp)
    rw [hf]
    cases (setsL (listL (fitTo l g.toNat (ways l 0) l.bunches.length) l.bunches.length)).find? fun own => decide (many ≤ leastR (ways l 0) own) <;> simp
/-! ### Wrong -/
def soR (but : List Int) (h : List Int) : Nat → List Count → Bool
  | _, [] => true
  | i, c :: l => (hasI but i || decide (counted c.bits.toNat 0 h = c.hands)) && soR but h (i + 1) l
def waysR (l : Lot) (but : List Int) : List (List Int) := (felt l.bunches).filter fun h => soR but h 0 l.counts
theorem list_has (b : Nat) (k : Nat) : ∀ n, k < n → hasI (listL b n) k = decide (bit b k = 1)
  | 0, h => by omega
  | n + 1, h => by
    have hz : ∀ m, ∀ z ∈ listL b m, z < (m : Int) := by
      intro m
      induction m with
      | zero => intro z hz; cases hz
      | succ m ih =>
        intro z hz
        rw [listL, List.mem_append] at hz
        rcases hz with h | h
        · have := ih z h; omega
        · split at h
          · rw [List.mem_singleton] at h; omega
          · cases h
    rw [listL]
    unfold hasI
    rw [List.any_append]
    by_cases e : k = n
    · subst e
      have : (listL b k).any (fun y => decide (y = (k : Int))) = false := by
        rw [List.any_eq_false]
        intro z hz'
        have := hz k z hz'
        simp only [decide_eq_true_eq]; omega
      rw [this, Bool.false_or]
      split
      · rename_i h; simp [h]
      · rename_i h; simp [h]
    · have ih := list_has b k n (by omega)
      unfold hasI at ih
      rw [ih]
      have : (if bit b n = 1 then [(n : Int)] else []).any (fun y => decide (y = (k : Int))) = false := by
        split
        · simp; omega
        · rfl
      rw [this, Bool.or_false]
theorem so_same (b n : Nat) (h : List Int) : ∀ (cs : List Count) (i : Nat), i + cs.length ≤ n → soR (listL b n) h i cs = soFrom b h i cs
  | [], _, _ => rfl
  | c :: cs, i, hi => by
    simp only [List.length_cons] at hi
    rw [soR, soFrom, so_same b n h cs (i + 1) (by omega), list_has b i n (by omega)]
theorem ways_same (l : Lot) (b : Nat) : waysR l (listL b l.counts.length) = ways l b := by
  unfold waysR ways
  congr 1
  funext h
  exact so_same b l.counts.length h l.counts 0 (by omega)
def choicesTo (n : Nat) : Nat → List (List Int)
  | 0 => []
  | k + 1 => choicesTo n k ++ choices n k
def wrongR (l : Lot) : List Int × Int := if (check l).2.2 ≠ 0 then ([], (check l).2.2) else
  match (choicesTo l.counts.length l.counts.length).find? fun x => !(waysR l x).isEmpty with | some x => (x, 0) | none => ((choices l.counts.length l.counts.length).getD 0 [], 0)
theorem choices_fin : ∀ n < 5, setsL (listL (2 ^ n - 1) n) = choicesTo n n ++ [listL (2 ^ n - 1) n] ∧ choices n n = [listL (2 ^ n - 1) n] ∧ ∀ b < 2 ^ n, bitDiff b (2 ^ n - 1) = 0 := by decide +kernel
theorem so_all (h : List Int) (n : Nat) : ∀ (cs : List Count) (i : Nat), i + cs.length ≤ n → n < 5 → soFrom (2 ^ n - 1) h i cs = true
  | [], _, _, _ => rfl
  | c :: cs, i, hi, hn => by
    simp only [List.length_cons] at hi
    have hb : ∀ n < 5, ∀ i < n, bit (2 ^ n - 1) i = 1 := by decide +kernel
    rw [soFrom, so_all h n cs (i + 1) (by omega) hn, hb n hn i (by omega)]
    simp
theorem wrong_same (l : Lot) : wrongR l = wrongP l := by
  unfold wrongR wrongP
  by_cases hc : (check l).2.2 ≠ 0
  · rw [if_pos hc, if_pos hc]
  · rw [if_neg hc, if_neg hc]
    have hok := check_ok (Decidable.not_not.1 hc)
    have hlc := hok.lc
    have hfin := choices_fin l.counts.length (by omega)
    have hpos : 0 < 2 ^ l.counts.length := Nat.pow_pos (by omega)
    have hf := fewest_find (do_ := fun b => !(ways l b).isEmpty) (p := fun x => !(waysR l x).isEmpty) (n := l.counts.length) (sub := 2 ^ l.counts.length - 1) (by omega) (by omega) (fun b hb => by
      rw [hfin.2.2 b hb, ways_same]; simp)
    rw [hf, hfin.1, List.find?_append]
    cases hq : (choicesTo l.counts.length l.counts.length).find? fun x => !(waysR l x).isEmpty with
    | some x => rfl
    | none =>
      have hall : (!(waysR l (listL (2 ^ l.counts.length - 1) l.counts.length)).isEmpty) = true := by
        rw [ways_same]
        have : ways l (2 ^ l.counts.length - 1) = felt l.bunches := List.filter_eq_self.2 fun h _ => so_all h l.counts.length l.counts 0 (by omega) (by omega)
        rw [this]
        have := felt_ne (bs := l.bunches) fun b hb => (hok.bunch b hb).2.1
        cases hx : felt l.bunches with
        | nil => exact absurd hx this
        | cons a b => rfl
      rw [hfin.2.1]
      simp [hall]
end Go.Rt.Ha
/- Plain laws of the hand layer: Hands, Grade, Total, Refused and Next, as the reference has them. No conditions. -/
set_option linter.unusedSimpArgs false
set_option linter.unusedVariables false
namespace Go.Rt.Ha
structure SpanF (b : Nat) (ws : List (List Int)) (s : Int × Int) : Prop where
  all : ∀ h ∈ ws, s.1 ≤ at_ h b ∧ at_ h b ≤ s.2
  lo : ∃ h ∈ ws, at_ h b = s.1
  hi : ∃ h ∈ ws, at_ h b = s.2
theorem fold_span (b : Nat) : ∀ (ws : List (List Int)) (s : Int × Int), (ws.foldl (joinS b) s).1 ≤ s.1 ∧ s.2 ≤ (ws.foldl (joinS b) s).2 ∧ (∀ h ∈ ws, (ws.foldl (joinS b) s).1 ≤ at_ h b ∧ at_ h b ≤ (ws.foldl (joinS b) s).2) ∧
    ((ws.foldl (joinS b) s).1 = s.1 ∨ ∃ h ∈ ws, at_ h b = (ws.foldl (joinS b) s).1) ∧ ((ws.foldl (joinS b) s).2 = s.2 ∨ ∃ h ∈ ws, at_ h b = (ws.foldl (joinS b) s).2)
  | [], s => by simp
  | h :: ws, s => by
    have ih := fold_span b ws (joinS b s h)
    rw [List.foldl_cons]
    generalize ws.foldl (joinS b) (joinS b s h) = r at ih
    have e1 : (joinS b s h).1 = min s.1 (at_ h b) := rfl
    have e2 : (joinS b s h).2 = max s.2 (at_ h b) := rfl
    rw [e1, e2] at ih
    obtain ⟨i1, i2, i3, i4, i5⟩ := ih
    have a1 : r.1 ≤ s.1 ∧ r.1 ≤ at_ h b := by clear i3 i4 i5; omega
    have a2 : s.2 ≤ r.2 ∧ at_ h b ≤ r.2 := by clear i3 i4 i5; omega
    have a3 : min s.1 (at_ h b) = s.1 ∨ min s.1 (at_ h b) = at_ h b := by clear i3 i4 i5; omega
    have a4 : max s.2 (at_ h b) = s.2 ∨ max s.2 (at_ h b) = at_ h b := by clear i3 i4 i5; omega
    refine ⟨a1.1, a2.1, fun x hx => ?_, ?_, ?_⟩
    · cases hx with
      | head => exact ⟨a1.2, a2.2⟩
      | tail _ hx => exact i3 x hx
    · rcases i4 with h1 | ⟨x, hx, h1⟩
      · rcases a3 with e | e
        · exact .inl (h1.trans e)
        · exact .inr ⟨h, .head _, (h1.trans e).symm⟩
      · exact .inr ⟨x, .tail _ hx, h1⟩
    · rcases i5 with h1 | ⟨x, hx, h1⟩
      · rcases a4 with e | e
        · exact .inl (h1.trans e)
        · exact .inr ⟨h, .head _, (h1.trans e).symm⟩
      · exact .inr ⟨x, .tail _ hx, h1⟩
theorem span_facts {b : Nat} : ∀ {ws : List (List Int)}, ws ≠ [] → SpanF b ws (spanR b ws)
  | [], h => absurd rfl h
  | h :: r, _ => by
    obtain ⟨i1, i2, i3, i4, i5⟩ := fold_span b r (at_ h b, at_ h b)
    have e : spanR b (h :: r) = r.foldl (joinS b) (at_ h b, at_ h b) := rfl
    rw [e]
    generalize r.foldl (joinS b) (at_ h b, at_ h b) = s at *
    refine ⟨fun x hx => ?_, ?_, ?_⟩
    · cases hx with
      | head => exact ⟨i1, i2⟩
      | tail _ hx => exact i3 x hx
    · rcases i4 with h1 | ⟨x, hx, h1⟩
      · exact ⟨h, .head _, h1.symm⟩
      · exact ⟨x, .tail _ hx, h1⟩
    · rcases i5 with h1 | ⟨x, hx, h1⟩
      · exact ⟨h, .head _, h1.symm⟩
      · exact ⟨x, .tail _ hx, h1⟩
theorem most_iff {b : Nat} {ws : List (List Int)} {x : Int} : ∀ k, mostTo b ws k ≤ x ↔ 0 ≤ x ∧ ∀ j, j < k → often b (j : Int) ws ≤ x
  | 0 => by simp [mostTo]
  | k + 1 => by
    have ih := most_iff (b := b) (ws := ws) (x := x) k
    simp only [mostTo]
    constructor
    · intro h
      have h1 := ih.1 (by omega)
      refine ⟨h1.1, fun j hj => ?_⟩
      by_cases e : j = k
      · subst e; omega
      · exact h1.2 j (by omega)
    · rintro ⟨h1, h2⟩
      have h3 := ih.2 ⟨h1, fun j hj => h2 j (by omega)⟩
      have := h2 k (by omega)
      omega
theorem often_lt {b : Nat} {v : Int} {ws : List (List Int)} : often b v ws < ws.length ↔ ∃ h ∈ ws, at_ h b ≠ v := by
  unfold often
  rw [Int.ofNat_lt, List.length_filter_lt_length_iff_exists]
  simp
theorem left_span {b : Nat} {ws : List (List Int)} (hw : ws ≠ []) (hb : ∀ h ∈ ws, 0 ≤ at_ h b ∧ at_ h b ≤ 12) : leftW b ws < ws.length ↔ (spanR b ws).1 < (spanR b ws).2 := by
  have hf := span_facts (b := b) hw
  obtain ⟨x, hx, ex⟩ := hf.lo
  obtain ⟨y, hy, ey⟩ := hf.hi
  have hpos : 0 < ws.length := List.length_pos_iff.2 hw
  constructor
  · intro h
    refine Decidable.byContradiction fun hn => ?_
    have hxb := hb x hx
    have := (hf.all x hx).2
    have h1 := (most_iff (b := b) (ws := ws) (x := ws.length - 1) 13).1 (by unfold leftW at h; omega)
    have h2 := h1.2 (at_ x b).toNat (by omega)
    rw [show (((at_ x b).toNat : Nat) : Int) = at_ x b by omega] at h2
    obtain ⟨z, hz, hne⟩ := often_lt.1 (show often b (at_ x b) ws < ws.length by omega)
    have := hf.all z hz
    omega
  · intro h
    have : leftW b ws ≤ ws.length - 1 := by
      unfold leftW
      refine (most_iff 13).2 ⟨by omega, fun j hj => ?_⟩
      have : often b (j : Int) ws < ws.length := by
        refine often_lt.2 ?_
        by_cases e : at_ x b = j
        · exact ⟨y, hy, by omega⟩
        · exact ⟨x, hx, e⟩
      omega
    omega
def handsR (l : Lot) (b : Int) : (Int × Int) × Int := if enterE l (idxE b l.bunches.length) ≠ 0 then ((0, 0), enterE l (idxE b l.bunches.length)) else (spanR b.toNat (ways l 0), 0)
theorem hands_same (l : Lot) (b : Int) : handsR l b = handsP l b := by
  unfold handsR handsP
  split
  · rfl
  · rename_i he
    have h1 := enterE_zero (Decidable.not_not.1 he)
    have hok := check_ok h1.1
    have h2 := idxE_zero h1.2.1
    rw [span_same h1.2.2 fun h hh => by have := way_at hok hh (b := b.toNat) (by omega); omega]
def gradeR (l : Lot) (b : Int) : List Int × Int := if enterE l (idxE b l.bunches.length) ≠ 0 then ([], enterE l (idxE b l.bunches.length)) else (gradeTo l (ways l 0) b.toNat (l.grades.length + 1), 0)
theorem grade_same (l : Lot) (b : Int) : gradeR l b = gradeP l b := by unfold gradeR gradeP; rw [grade_list]
def totR (l : Lot) (g : Int) : (Int × Int) × Int := if enterE l (idxE g l.grades.length) ≠ 0 then ((0, 0), enterE l (idxE g l.grades.length)) else (totalR l g (ways l 0), 0)
theorem tot_same (l : Lot) (g : Int) : totR l g = totalP l g := by
  unfold totR totalP
  split
  · rfl
  · rename_i he
    have h1 := enterE_zero (Decidable.not_not.1 he)
    have h2 := idxE_zero h1.2.1
    have := total_same (check_ok h1.1) g.toNat 0
    rw [show ((g.toNat : Nat) : Int) = g by omega] at this
    rw [this]
def sureR (l : Lot) (ws : List (List Int)) : Nat → List Int
  | 0 => []
  | k + 1 => sureR l ws k ++ if mustR l ws k (-1) then [(k : Int)] else []
def mayR (l : Lot) (ws : List (List Int)) : Nat → List Int
  | 0 => []
  | k + 1 => mayR l ws k ++ if couldR l ws k (-1) then [(k : Int)] else []
def refusedR (l : Lot) : List Int × List Int × Int := if enterE l 0 ≠ 0 then ([], [], enterE l 0) else (sureR l (ways l 0) l.bunches.length, mayR l (ways l 0) l.bunches.length, 0)
theorem sure_same {l : Lot} (hok : l.Ok) {ws : List (List Int)} (hw : ws ≠ []) : ∀ k, k ≤ l.bunches.length → sureR l ws k = sureTo l ws k
  | 0, _ => rfl
  | k + 1, hk => by
    rw [sureR, sureTo, sure_same hok hw k (by omega), must_one (scars_ne hok (by omega)) hw]
    congr 1
    by_cases h : setW l k ws = 1 <;> simp [h]
theorem may_same (l : Lot) (ws : List (List Int)) : ∀ k, mayR l ws k = mayTo l ws k
  | 0 => rfl
  | k + 1 => by
    have h0 : setW l k ws &&& 1 = 1 ↔ (setW l k ws).testBit 0 = true := by
      have := bit_iff (setW l k ws) 0
      unfold bit at this
      rwa [Nat.shiftRight_zero] at this
    rw [mayR, mayTo, may_same l ws k, could_bit l ws k (Int.le_refl _)]
    congr 1
    by_cases h : (setW l k ws).testBit 0 = true
    · rw [if_pos (by simpa using h), if_pos (h0.2 h)]
    · rw [if_neg (by simpa using h), if_neg fun h' => h (h0.1 h')]
theorem refused_same (l : Lot) : refusedR l = refusedP l := by
  unfold refusedR refusedP
  split
  · rfl
  · rename_i he
    have h1 := enterE_zero (Decidable.not_not.1 he)
    rw [sure_same (check_ok h1.1) h1.2.2 _ (Nat.le_refl _), may_same]
def nextRTo (ws : List (List Int)) : Nat → Int × Int
  | 0 => (-1, 0)
  | k + 1 => let s := nextRTo ws k
    if (spanR k ws).1 < (spanR k ws).2 ∧ (s.1 < 0 ∨ leftW k ws < s.2) then ((k : Int), leftW k ws) else s
def nextR (l : Lot) : Int × Int × Int := if enterE l 0 ≠ 0 then (0, 0, enterE l 0) else if (nextRTo (ways l 0) l.bunches.length).1 < 0 then (0, 0, 9) else ((nextRTo (ways l 0) l.bunches.length).1, (nextRTo (ways l 0) l.bunches.length).2, 0)
theorem next_to {l : Lot} (hok : l.Ok) (hw : ways l 0 ≠ []) : ∀ k, k ≤ l.bunches.length → nextRTo (ways l 0) k = nextTo (ways l 0) k
  | 0, _ => rfl
  | k + 1, hk => by
    have := left_span (b := k) hw fun h hh => by have := way_at hok hh (b := k) (by omega); omega
    simp only [nextRTo, nextTo, next_to hok hw k (by omega), this]
theorem next_same (l : Lot) : nextR l = nextP l := by
  unfold nextR nextP
  by_cases he : enterE l 0 ≠ 0
  · rw [if_pos he, if_pos he]
  · rw [if_neg he, if_neg he]
    have h1 := enterE_zero (Decidable.not_not.1 he)
    rw [next_to (check_ok h1.1) h1.2.2 _ (Nat.le_refl _)]
end Go.Rt.Ha
/- Plain laws of the hand layer: Check as the reference has it; a lot that is told by a way. No conditions. -/
set_option linter.unusedSimpArgs false
set_option linter.unusedVariables false
namespace Go.Rt.Ha
def bunchR (b : Bunch) : Int := if ends b.lo b.hi 1 12 = 7 ∨ ends b.slo b.shi 0 9 = 7 then 7 else if ends b.lo b.hi 1 12 ≠ 0 ∨ ends b.slo b.shi 0 9 ≠ 0 ∨ 3 < b.hi - b.lo then 2 else 0
theorem bunch_same (before : List Bunch) (b : Bunch) : bunchR b = bunchE before b := by
  unfold bunchR bunchE ends
  cases h1 : out 1 12 b.lo <;> cases h2 : out 1 12 b.hi <;> cases h3 : out 0 9 b.slo <;> cases h4 : out 0 9 b.shi <;> simp [out] <;> (repeat' split) <;> simp_all <;> omega
def allN : Nat → Int
  | 0 => 0
  | k + 1 => 2 * allN k + 1
theorem allN_eq : ∀ n, allN n = 2 ^ n - 1
  | 0 => by simp [allN]
  | n + 1 => by rw [allN, allN_eq n, Int.pow_succ]; omega
/-! ### A lot whose counts are those of a way -/
def toldC (h : List Int) (c : Count) : Count := { c with hands := counted c.bits.toNat 0 h }
def told (l : Lot) (h : List Int) : Lot := { l with counts := l.counts.map (toldC h) }
theorem counted_in (bits : Nat) : ∀ (h : List Int) (i : Nat), (∀ z ∈ h, 0 ≤ z ∧ z ≤ 12) → 0 ≤ counted bits i h ∧ counted bits i h ≤ 12 * h.length
  | [], _, _ => by simp [counted]
  | z :: h, i, hz => by
    have ih := counted_in bits h (i + 1) fun y hy => hz y (.tail _ hy)
    have := hz z (.head _)
    simp only [counted, List.length_cons]
    split <;> omega
theorem felt_num {l : Lot} (hok : l.Ok) {h : List Int} (hf : h ∈ felt l.bunches) : h.length = l.bunches.length ∧ ∀ z ∈ h, 1 ≤ z ∧ z ≤ 12 := by
  have h1 := (felt_in _ _).1 hf
  refine ⟨h1.1, fun z hz => ?_⟩
  obtain ⟨i, hi, rfl⟩ := List.getElem_of_mem hz
  have h2 := h1.2 i (by omega)
  have h3 := hok.bunch _ (List.getElem_mem (show i < l.bunches.length by omega))
  have e : at_ h i = h[i] := by unfold at_; simp [List.getD, hi]
  rw [e] at h2
  omega
theorem told_so (h : List Int) (but : Nat) : ∀ (cs : List Count) (i : Nat), soFrom but h i (cs.map (toldC h)) = true
  | [], _ => rfl
  | c :: cs, i => by
    rw [List.map_cons, soFrom, told_so h but cs (i + 1)]
    simp [toldC]
theorem told_way {l : Lot} {h : List Int} (hf : h ∈ felt l.bunches) (but : Nat) : h ∈ ways (told l h) but := List.mem_filter.2 ⟨hf, told_so h but l.counts 0⟩
theorem failE_iff {α : Type} {err : List α → α → Int} {lo most : Int} {l : List α} : (failE err lo most l).2 = 0 ↔ (lo ≤ l.length ∧ (l.length : Int) ≤ most) ∧ ∀ k (h : k < l.length), err (l.take k) l[k] = 0 := by
  constructor
  · exact failE_zero
  · rintro ⟨h1, h2⟩
    unfold failE
    rw [if_neg (by unfold out; simp; omega)]
    have key : ∀ (r b : List α) (i : Int), b ++ r = l → (firstE err b i r).2 = 0 := by
      intro r
      induction r with
      | nil => intro b i _; rfl
      | cons x r ih =>
        intro b i hb
        have h3 := h2 b.length (by rw [← hb]; simp)
        have e1 : l.take b.length = b := by rw [← hb]; simp
        have e2 : l[b.length]'(by rw [← hb]; simp) = x := by subst hb; simp
        rw [e1, e2] at h3
        unfold firstE
        rw [if_pos h3]
        exact ih (b ++ [x]) _ (by rw [← hb]; simp)
    exact key l [] 0 rfl
theorem check_iff {l : Lot} : (check l).2.2 = 0 ↔ (failE gradeE 1 4 l.grades).2 = 0 ∧ (failE bunchE 0 6 l.bunches).2 = 0 ∧ (failE (countE l.bunches.length) 0 4 l.counts).2 = 0 := by
  constructor
  · exact check_parts
  · rintro ⟨h1, h2, h3⟩
    unfold check
    rw [if_neg (by simp [h1]), if_neg (by simp [h2]), if_neg (by simp [h3])]
theorem countE_iff {n : Nat} {b : List Count} {c : Count} : countE n b c = 0 ↔ 1 ≤ c.bits ∧ c.bits ≤ 2 ^ n - 1 ∧ 0 ≤ c.hands ∧ c.hands ≤ 72 := by
  unfold countE out
  constructor
  · intro h
    split at h
    · cases h
    · rename_i h1
      simp only [Bool.or_eq_true, decide_eq_true_eq, not_or] at h1
      split at h
      · cases h
      · rename_i h2
        simp only [Bool.or_eq_true, decide_eq_true_eq, not_or] at h2
        omega
  · intro h
    rw [if_neg (by simp only [Bool.or_eq_true, decide_eq_true_eq, not_or]; omega), if_neg (by simp only [Bool.or_eq_true, decide_eq_true_eq, not_or]; omega)]
theorem told_check {l : Lot} (hc : (check l).2.2 = 0) {h : List Int} (hf : h ∈ felt l.bunches) : (check (told l h)).2.2 = 0 := by
  have hok := check_ok hc
  obtain ⟨h1, h2, h3⟩ := check_iff.1 hc
  refine check_iff.2 ⟨h1, h2, ?_⟩
  rw [failE_iff] at h3 ⊢
  have hl : (told l h).counts.length = l.counts.length := List.length_map _
  refine ⟨by rw [hl]; exact h3.1, fun k hk => ?_⟩
  have hk2 : k < l.counts.length := by omega
  have h4 := countE_iff.1 (h3.2 k hk2)
  have e : (told l h).counts[k] = toldC h l.counts[k] := by show (l.counts.map _)[k]'(by simpa using hk2) = _; rw [List.getElem_map]
  rw [e]
  have hn := felt_num hok hf
  have h5 := counted_in (l.counts[k].bits.toNat) h 0 fun z hz => by have := hn.2 z hz; omega
  have h6 := hok.lb
  exact countE_iff.2 ⟨h4.1, h4.2.1, h5.1, by show counted _ 0 h ≤ 72; omega⟩
end Go.Rt.Ha
/- Plain words of the hand layer: all ways, as they are yielded one after the other, filled up to six numbers. No conditions. -/
set_option linter.unusedSimpArgs false
set_option linter.unusedVariables false
namespace Go.Rt.Ha
def pad6 (h : List Int) : List Int := h ++ List.replicate (6 - h.length) 0
theorem pad6_len {h : List Int} (hl : h.length ≤ 6) : (pad6 h).length = 6 := by simp [pad6]; omega
theorem pad6_inj {a b : List Int} (h : a.length = b.length) (e : pad6 a = pad6 b) : a = b := by
  unfold pad6 at e
  exact (List.append_inj e h).1
theorem counted_snoc (bits : Nat) (x : Int) : ∀ (l : List Int) (i : Nat), counted bits i (l ++ [x]) = counted bits i l + if bit bits (i + l.length) = 1 then x else 0
  | [], i => by simp [counted]
  | y :: l, i => by
    simp only [List.cons_append, counted, counted_snoc bits x l (i + 1), List.length_cons]
    rw [show i + 1 + l.length = i + (l.length + 1) by omega]; omega
theorem counted_pad (bits : Nat) (l : List Int) (i : Nat) : ∀ k, counted bits i (l ++ List.replicate k 0) = counted bits i l
  | 0 => by simp
  | k + 1 => by
    rw [List.replicate_succ', ← List.append_assoc, counted_snoc, counted_pad bits l i k]; simp
theorem so_pad (but : Nat) (h : List Int) : ∀ (cs : List Count) (i : Nat), soFrom but (pad6 h) i cs = soFrom but h i cs
  | [], i => rfl
  | c :: cs, i => by simp only [soFrom, so_pad but h cs (i + 1)]; unfold pad6; rw [counted_pad]
theorem counted_take {bits : Nat} {h : List Int} {b : Nat} (hb : b < h.length) : counted bits 0 (h.take (b + 1)) = counted bits 0 (h.take b) + h[b] * ((bit bits b : Nat) : Int) := by
  rw [List.take_succ_eq_append_getElem hb, counted_snoc]
  rw [List.length_take, Nat.min_eq_left (by omega), Nat.zero_add]
  have : bit bits b = 0 ∨ bit bits b = 1 := by unfold bit; have := Nat.and_lt_two_pow (x := bits >>> b) (y := 1) (n := 1) (by omega); omega
  rcases this with h | h <;> simp [h]
theorem counted_bound {bits : Nat} {h : List Int} (hh : ∀ z ∈ h, 0 ≤ z ∧ z ≤ 12) (b : Nat) (hl : h.length ≤ 6) : 0 ≤ counted bits 0 (h.take b) ∧ counted bits 0 (h.take b) ≤ 72 := by
  have := counted_in bits (h.take b) 0 (fun z hz => hh z (List.mem_of_mem_take hz))
  have h2 : (h.take b).length ≤ 6 := by rw [List.length_take]; omega
  omega
theorem so_no {but : Nat} {h : List Int} {cs : List Count} {i : Nat} (hi : i < cs.length) (hb : bit but i = 0) (hc : counted cs[i].bits.toNat 0 h ≠ cs[i].hands) : soFrom but h i (cs.drop i) = false := by
  rw [List.drop_eq_getElem_cons hi]; simp only [soFrom]; simp [hb, hc]
theorem so_yes {but : Nat} {h : List Int} {cs : List Count} {i : Nat} (hi : i < cs.length) (hc : bit but i = 1 ∨ counted cs[i].bits.toNat 0 h = cs[i].hands) : soFrom but h i (cs.drop i) = soFrom but h (i + 1) (cs.drop (i + 1)) := by
  rw [List.drop_eq_getElem_cons hi]; simp only [soFrom]
  rcases hc with h | h <;> simp [h]
theorem so_end {but : Nat} {h : List Int} {cs : List Count} {i : Nat} (hi : cs.length ≤ i) : soFrom but h i (cs.drop i) = true := by rw [List.drop_of_length_le hi]; rfl
theorem bit01 (b j : Nat) : bit b j = 0 ∨ bit b j = 1 := by unfold bit; have := Nat.and_lt_two_pow (x := b >>> j) (y := 1) (n := 1) (by omega); omega
/-! ### Ways that begin so -/
def segW (l : Lot) (but d : Nat) (pre : List Int) : List (List Int) := (((felt (l.bunches.drop d)).map (pre ++ ·)).filter fun h => soFrom but h 0 l.counts).map pad6
theorem seg_all (l : Lot) (but : Nat) : segW l but 0 [] = (ways l but).map pad6 := by simp [segW, ways]
theorem seg_leaf {l : Lot} {but d : Nat} {pre : List Int} (hd : l.bunches.length ≤ d) : segW l but d pre = if soFrom but pre 0 l.counts then [pad6 pre] else [] := by
  unfold segW; rw [List.drop_of_length_le hd]; simp only [felt, List.map_cons, List.append_nil, List.map_nil, List.filter_cons, List.filter_nil]; split <;> rfl
def restW (l : Lot) (but d : Nat) (pre : List Int) (xs : List Int) : List (List Int) := xs.flatMap fun x => segW l but (d + 1) (pre ++ [x])
theorem seg_node {l : Lot} {but d : Nat} {pre : List Int} (hd : d < l.bunches.length) : segW l but d pre = restW l but d pre (spanL l.bunches[d].lo l.bunches[d].hi) := by
  unfold segW restW
  rw [List.drop_eq_getElem_cons hd]
  simp only [felt, List.map_flatMap, List.filter_flatMap, List.map_map]
  congr 1; funext x
  unfold segW
  congr 3; funext h; simp
theorem rest_cons (l : Lot) (but d : Nat) (pre : List Int) (x : Int) (xs : List Int) : restW l but d pre (x :: xs) = segW l but (d + 1) (pre ++ [x]) ++ restW l but d pre xs := rfl
theorem upto_step {lo : Int} {k n : Nat} (h : k < n) : upto (lo + k) (n - k) = (lo + k) :: upto (lo + (k + 1 : Nat)) (n - (k + 1)) := by
  rw [show n - k = (n - (k + 1)) + 1 by omega, upto, show lo + (k : Int) + 1 = lo + (k + 1 : Nat) by omega]
/-! ### Each way once -/
theorem upto_nodup : ∀ (n : Nat) (lo : Int), (upto lo n).Nodup
  | 0, _ => by simp [upto]
  | n + 1, lo => by
    simp only [upto, List.nodup_cons]
    exact ⟨fun h => by have := (upto_mem n (lo + 1) lo).1 h; omega, upto_nodup n (lo + 1)⟩
theorem felt_nodup : ∀ bs : List Bunch, (felt bs).Nodup
  | [] => by simp [felt]
  | b :: bs => by
    have ih := felt_nodup bs
    have key : ∀ xs : List Int, xs.Nodup → (xs.flatMap fun n => (felt bs).map (n :: ·)).Nodup := by
      intro xs
      induction xs with
      | nil => intro _; simp
      | cons x xs ihx =>
        intro hn
        rw [List.nodup_cons] at hn
        rw [List.flatMap_cons, List.nodup_append]
        refine ⟨by unfold List.Nodup; rw [List.pairwise_map]; exact List.Pairwise.imp (fun h e => h (by simpa using e)) ih, ihx hn.2, ?_⟩
        intro a ha b hb hab
        obtain ⟨u, _, rfl⟩ := List.mem_map.1 ha
        obtain ⟨y, hy, hb⟩ := List.mem_flatMap.1 hb
        obtain ⟨v, _, rfl⟩ := List.mem_map.1 hb
        injection hab with h1 h2
        subst h1
        exact hn.1 hy
    exact key _ (upto_nodup _ _)
theorem ways_nodup (l : Lot) (but : Nat) : (ways l but).Nodup := (felt_nodup _).filter _
theorem way_len {l : Lot} {but : Nat} {h : List Int} (hw : h ∈ ways l but) : h.length = l.bunches.length := ((felt_in _ _).1 (way_felt hw)).1
theorem padw_nodup (l : Lot) (but : Nat) : ((ways l but).map pad6).Nodup := by
  have key : ∀ ws : List (List Int), (∀ h ∈ ws, h.length = l.bunches.length) → ws.Nodup → (ws.map pad6).Nodup := by
    intro ws
    induction ws with
    | nil => intro _ _; simp
    | cons x ws ih =>
      intro hl hn
      rw [List.nodup_cons] at hn
      rw [List.map_cons, List.nodup_cons]
      refine ⟨fun h => ?_, ih (fun h hh => hl h (.tail _ hh)) hn.2⟩
      obtain ⟨y, hy, he⟩ := List.mem_map.1 h
      have := pad6_inj ((hl y (.tail _ hy)).trans (hl x (.head _)).symm) he
      subst this
      exact hn.1 hy
  exact key _ (fun h hh => way_len hh) (ways_nodup l but)
theorem padw_len {l : Lot} (hok : l.Ok) {but : Nat} {h : List Int} (hw : h ∈ (ways l but).map pad6) : h.length = 6 ∧ ∀ z ∈ h, 0 ≤ z ∧ z ≤ 12 := by
  obtain ⟨x, hx, rfl⟩ := List.mem_map.1 hw
  have hl := way_len hx
  have h6 := hok.lb
  refine ⟨pad6_len (by omega), fun z hz => ?_⟩
  unfold pad6 at hz
  rcases List.mem_append.1 hz with h | h
  · have := (felt_num hok (way_felt hx)).2 z h; omega
  · have := (List.mem_replicate.1 h).2; omega
theorem pad6_at (h : List Int) (b : Nat) : (pad6 h).getD b 0 = at_ h b := by
  unfold pad6 at_
  by_cases hb : b < h.length
  · simp [List.getD, List.getElem?_append_left hb]
  · simp only [List.getD, List.getElem?_append_right (by omega : h.length ≤ b), List.getElem?_replicate]
    rw [List.getElem?_eq_none (by omega : h.length ≤ b)]
    split <;> rfl
theorem zero_notin {l : Lot} (hok : l.Ok) {but : Nat} (hn : 0 < l.bunches.length) : List.replicate 6 (0 : Int) ∉ (ways l but).map pad6 := by
  intro h
  obtain ⟨x, hx, he⟩ := List.mem_map.1 h
  have h1 := pad6_at x 0
  rw [he] at h1
  have h2 := way_at hok hx hn
  rw [← h1] at h2
  simp at h2
/-! ### Lists that are gone through -/
theorem drop_lt {α : Type} {l : List α} {i : Nat} {x : α} {r : List α} (h : l.drop i = x :: r) : i < l.length := by
  rcases Nat.lt_or_ge i l.length with h1 | h1
  · exact h1
  · rw [List.drop_of_length_le h1] at h; cases h
theorem drop_get {α : Type} {l : List α} {i : Nat} {x : α} {r : List α} (h : l.drop i = x :: r) : l[i]'(drop_lt h) = x := by
  rw [List.drop_eq_getElem_cons (drop_lt h)] at h
  injection h
theorem drop_next {α : Type} {l : List α} {i : Nat} {x : α} {r : List α} (h : l.drop i = x :: r) : l.drop (i + 1) = r := by
  rw [List.drop_eq_getElem_cons (drop_lt h)] at h
  injection h
theorem drop_done {α : Type} {l : List α} {i : Nat} (hi : i ≤ l.length) (h : l.drop i = []) : i = l.length := by
  have := congrArg List.length h; simp at this; omega
theorem drop_notin {α : Type} {l : List α} {i : Nat} {x : α} {r : List α} (hn : l.Nodup) (h : l.drop i = x :: r) : x ∉ r := by
  have h1 : (l.drop i).Nodup := List.Sublist.nodup (List.drop_sublist _ _) hn
  rw [h, List.nodup_cons] at h1; exact h1.1
/-! ### Numbers set in a list of six -/
theorem cur_pad {cur pre : List Int} {d : Nat} (hl : cur.length = 6) (hp : pre.length = d) (hk : cur.take d = pre) (hz : ∀ j, d ≤ j → cur.getD j 0 = 0) : cur = pad6 pre := by
  apply List.ext_getElem?
  intro j
  unfold pad6
  subst hk
  have hpl : (cur.take d).length ≤ 6 := by simp; omega
  by_cases hj : j < d
  · by_cases h6 : j < 6
    · rw [List.getElem?_append_left (by simp; omega), List.getElem?_take, if_pos hj]
    · rw [List.getElem?_eq_none (by omega), List.getElem?_eq_none (by simp; omega)]
  · by_cases h6 : j < 6
    · rw [List.getElem?_append_right (by simp; omega), List.getElem?_replicate, if_pos (by simp at *; omega)]
      have := hz j (by omega)
      simpa [List.getD, show j < cur.length by omega] using this
    · rw [List.getElem?_eq_none (by omega), List.getElem?_eq_none (by simp; omega)]
theorem set_take {cur pre : List Int} {d : Nat} {x : Int} (hk : cur.take d = pre) (hd : d < cur.length) : (cur.set d x).take (d + 1) = pre ++ [x] := by
  rw [List.take_succ_eq_append_getElem (by simpa using hd), List.take_set_of_le (Nat.le_refl _), hk]; simp
theorem set_zero {cur : List Int} {d n : Nat} {x : Int} (hd : d < n) (hz : ∀ j, n ≤ j → cur.getD j 0 = 0) : ∀ j, n ≤ j → (cur.set d x).getD j 0 = 0 := by
  intro j hj
  have := hz j hj
  simp only [List.getD, List.getElem?_set_ne (show d ≠ j by omega)] at this ⊢; exact this
theorem take_less {cur pre : List Int} {d : Nat} {x : Int} (hk : cur.take (d + 1) = pre ++ [x]) (hp : pre.length = d) : cur.take d = pre := by
  have h := congrArg (List.take d) hk
  rw [List.take_take, Nat.min_eq_left (by omega)] at h
  rw [h, ← hp]; simp
end Go.Rt.Ha
/- The walking engine, part 12: ranges over functions that keep something of their own. No conditions. -/
set_option linter.unusedSimpArgs false
set_option linter.unusedVariables false
namespace Go.Rt
open Go.RowKit
variable {r : Option Nat} {P : Program} {ops : Array Oper} {Q : Exit → Act → World → Prop} {rest : List Oper} {n : Nat} {ρ : Nat → Value} {ds : List Deferred} {w w0 : World} {L : List (Nat × Obj)}
/-- As Iter, for consumers of a kind. -/
def IterC (P : Program) (k : FuncId) (first captured : List Value) (xs : List Value) (w0 : World) (F : List (Nat × Obj)) (C : (Nat → List (Nat × Obj) → Prop) → (List (Nat × Obj) → Prop) → Prop) : Prop :=
  ∀ (J : Nat → List (Nat × Obj) → Prop) (Js : List (Nat × Obj) → Prop), C J Js → ∀ (yv : Value) (B X : List (Nat × Obj)) (w : World), (∃ f a b, yv = .func f a b) →
    (∀ i (hi : i < xs.length) B X w, J i B → St w0 w (X ++ (B ++ F)) → FCon P yv [xs[i]] w fun v w' => ∃ B', St w0 w' (X ++ (B' ++ F)) ∧ (v = .bool true ∧ J (i + 1) B' ∨ v = .bool false ∧ Js B')) →
    J 0 B → St w0 w (X ++ (B ++ F)) →
    Con P k (first ++ ([yv] ++ captured)) w fun _ w' => ∃ B', St w0 w' (X ++ (B' ++ F)) ∧ (J xs.length B' ∨ Js B')
/-- Consumers that have a memo in their keeping. -/
def ClsM (K : List (Nat × Obj) → Prop) (J : Nat → List (Nat × Obj) → Prop) (Js : List (Nat × Obj) → Prop) : Prop :=
  ∃ (J0 : Nat → List (Nat × Obj) → Prop) (Js0 : List (Nat × Obj) → Prop), (∀ i Bx, J i Bx ↔ ∃ B M, Bx = B ++ M ∧ K M ∧ J0 i B) ∧ ∀ Bx, Js Bx ↔ ∃ B M, Bx = B ++ M ∧ K M ∧ Js0 B
theorem clsM_range {K : List (Nat × Obj) → Prop} {J : Nat → List (Nat × Obj) → Prop} {Js : Code → List (Nat × Obj) → Prop} (J0 : Nat → List (Nat × Obj) → Prop) (Js0 : Code → List (Nat × Obj) → Prop) (h1 : ∀ i Bx, J i Bx ↔ ∃ B M, Bx = B ++ M ∧ K M ∧ J0 i B) (h2 : ∀ c Bx, Js c Bx ↔ ∃ B M, Bx = B ++ M ∧ K M ∧ Js0 c B) (a b : Nat × Obj) (cc : Code → Nat × Obj) :
    ClsM K (fun i Bx => ∃ B, Bx = a :: b :: B ∧ J i B) (fun Bx => ∃ B c, Bx = cc c :: b :: B ∧ Js c B) := by
  refine ⟨fun i B => ∃ B0, B = a :: b :: B0 ∧ J0 i B0, fun B => ∃ B0 c, B = cc c :: b :: B0 ∧ Js0 c B0, fun i Bx => ⟨?_, ?_⟩, fun Bx => ⟨?_, ?_⟩⟩
  · rintro ⟨B, rfl, hJ⟩
    obtain ⟨B0, M, rfl, hK, h⟩ := (h1 i B).1 hJ
    exact ⟨a :: b :: B0, M, rfl, hK, B0, rfl, h⟩
  · rintro ⟨B, M, rfl, hK, B0, rfl, h⟩
    exact ⟨B0 ++ M, rfl, (h1 i _).2 ⟨B0, M, rfl, hK, h⟩⟩
  · rintro ⟨B, c, rfl, hJ⟩
    obtain ⟨B0, M, rfl, hK, h⟩ := (h2 c B).1 hJ
    exact ⟨cc c :: b :: B0, M, rfl, hK, B0, c, rfl, h⟩
  · rintro ⟨B, M, rfl, hK, B0, c, rfl, h⟩
    exact ⟨B0 ++ M, c, rfl, (h2 c _).2 ⟨B0, M, rfl, hK, h⟩⟩
theorem st_in {P X B R : List (Nat × Obj)} (h : St w0 w (P ++ (X ++ (B ++ R)))) : St w0 w ((P ++ (X ++ B)) ++ R) := by simpa only [List.append_assoc] using h
theorem st_out {P X B R : List (Nat × Obj)} (h : St w0 w ((P ++ (X ++ B)) ++ R)) : St w0 w (P ++ (X ++ (B ++ R))) := by simpa only [List.append_assoc] using h
theorem w_rangeC {C : (Nat → List (Nat × Obj) → Prop) → (List (Nat × Obj) → Prop) → Prop} {g : Operand} {pt : Nat} {assign body : Code} {k : FuncId} {first captured : Array Value} {xs : List Value} {F : List (Nat × Obj)} (B : List (Nat × Obj)) (J : Nat → List (Nat × Obj) → Prop) (Js : Code → List (Nat × Obj) → Prop)
    (hog : okO n g = true) (hg : ev ρ g = .func (.func k) first captured) (hpt : Nat.blt pt n = true) (hC : CF P k) (hit : IterC P k first.toList captured.toList xs w0 F C) (hcls : ∀ (a b : Nat × Obj) (cc : Code → Nat × Obj), C (fun i Bx => ∃ B, Bx = a :: b :: B ∧ J i B) (fun Bx => ∃ B c, Bx = cc c :: b :: B ∧ Js c B)) (hst : St w0 w L) (hperm : L.Perm (B ++ F)) (h0 : J 0 B)
    (round : ∀ l i (hi : i < xs.length) B X X' w, J i B → St w0 w (B ++ (X ++ F)) → ∀ K : Act → World → Prop,
      (∀ a w Y, St w0 w (Y ++ (X ++ F)) → (∀ w', St w0 w' (Y ++ (X' ++ F)) → WC (some l) P body (Rd w0 J Js i (X' ++ F)) a w') → K a w) →
      WC (some l) P assign (Exit.then K fun _ _ _ => False) (A n (upd ρ pt xs[i]) []) w)
    (hend : ∀ bd B w, J xs.length B → St w0 w ((bd, .deferred (some [])) :: (B ++ F)) → Q .normal (A n ρ (mk bd :: ds)) w)
    (hjump : ∀ bd c B w, Js c B → St w0 w ((bd, .deferred (some [])) :: (B ++ F)) → WC none P c Q (A n ρ (mk bd :: ds)) w) :
    WC none P (.rangeFunc g #[pt] assign body) Q (A n ρ ds) w := by
  refine wpIn_rangeFunc (F := FW none) fun fn _ => ?_
  have henter := run_enterLoop_outer (P := P) (w := w) fn (A n ρ ds).tmps #[pt] assign body
  let bd := w.heap.size
  let l := w.heap.size + 1
  let rc (s : LoopState) (pend : Option Code) : Obj := .loop { state := s, pending := pend, fn := fn, tmps := fa n ρ, params := #[pt], assign := assign, body := body, defers := bd }
  let w1 : World := (w.alloc (.deferred (some []))).alloc (rc .ready none)
  have hst1 : St w0 w1 ((l, rc .ready none) :: (bd, .deferred (some [])) :: L) := by
    have h1 := (hst.alloc (.deferred (some []))).alloc (rc .ready none)
    rw [World.size_alloc] at h1
    exact h1
  refine ⟨l, [mk bd], w1, { target := .fn (.func k) captured, args := first ++ #[.func (.yield l) #[] #[]] }, w1, k, first ++ #[.func (.yield l) #[] #[]] ++ captured, w1, henter, ?_, fun _ _ => trivial, ?_, fun h => (by simp at h), ?_⟩
  · have e1 : (#[Operand.const (Value.func (Fn.yield l) #[] #[])].map (A n ρ ds).eval) = #[Value.func (Fn.yield l) #[] #[]] := by simp [Act.eval]
    simp only [resolve, rangeCall, ev_eq hog, hg, Deferred.ofValue, e1]
    rfl
  · exact hC (first ++ #[Value.func (Fn.yield l) #[] #[]] ++ captured) w1
  · have hperm1 : ((l, rc .ready none) :: (bd, .deferred (some [])) :: L).Perm ([] ++ (((l, rc .ready none) :: (bd, .deferred (some [])) :: B) ++ F)) := (List.Perm.cons _ (List.Perm.cons _ hperm))
    have hI := hit (fun i Bx => ∃ B, Bx = (l, rc .ready none) :: (bd, .deferred (some [])) :: B ∧ J i B) (fun Bx => ∃ B c, Bx = (l, rc .done (some c)) :: (bd, .deferred (some [])) :: B ∧ Js c B) (hcls (l, rc .ready none) (bd, .deferred (some [])) (fun c => (l, rc .done (some c)))) (.func (.yield l) #[] #[])
      ((l, rc .ready none) :: (bd, .deferred (some [])) :: B) [] w1 ⟨_, _, _, rfl⟩ ?_ ⟨B, rfl, h0⟩ (hst1.perm hperm1)
    · have hargs : (first ++ #[Value.func (Fn.yield l) #[] #[]] ++ captured) = (first.toList ++ ([Value.func (Fn.yield l) #[] #[]] ++ captured.toList)).toArray := by
        apply Array.ext'; simp
      rw [hargs]
      refine CallsIn.mono hI ?_
      rintro e w' ⟨v, rfl, B', hst', hB⟩
      rcases hB with ⟨B, rfl, hB⟩ | ⟨B, c, rfl, hB⟩
      · have hg' := hst'.get (i := 0) rfl
        refine ⟨none, _, run_endLoop hg' (by simp), ?_⟩
        exact hend bd B _ hB (hst'.putObj (i := 0) rfl _).tail
      · have hg' := hst'.get (i := 0) rfl
        refine ⟨some c, _, run_endLoop hg' (by simp), ?_⟩
        exact hjump bd c B _ hB (hst'.putObj (i := 0) rfl _).tail
    · rintro i hi Bx X w2 ⟨B, rfl, hB⟩ hst2
      have hp : (X ++ (((l, rc .ready none) :: (bd, .deferred (some [])) :: B) ++ F)).Perm ((l, rc .ready none) :: (bd, .deferred (some [])) :: (X ++ (B ++ F))) := perm_mid X [(l, rc .ready none), (bd, .deferred (some []))] (B ++ F)
      have hst3 := hst2.perm hp
      have hg' := hst3.get (i := 0) rfl
      refine .inr ⟨l, fn, fa n (upd ρ pt xs[i]), assign, body, rfl, ?_, ?_⟩
      · rw [run_yield hg' rfl]
        simp [rc, fa_put]
      · refine roundIn_of_wpIn (F := FW none) trivial ?_
        have hp2 : ((l, rc .ready none) :: (bd, .deferred (some [])) :: (X ++ (B ++ F))).Perm (B ++ (((l, rc .ready none) :: (bd, .deferred (some [])) :: X) ++ F)) :=
          perm_mid ((l, rc .ready none) :: (bd, .deferred (some [])) :: X) B F
        refine round l i hi B ((l, rc .ready none) :: (bd, .deferred (some [])) :: X) ((l, rc .busy none) :: (bd, .deferred (some [])) :: X) w2 hB (hst3.perm hp2) _ ?_
        intro a w3 Y hst4 hbody
        have hp3 : (Y ++ (((l, rc .ready none) :: (bd, .deferred (some [])) :: X) ++ F)).Perm ((l, rc .ready none) :: (Y ++ (((bd, .deferred (some [])) :: X) ++ F))) := perm_mid Y [(l, rc .ready none)] _
        have hst5 := hst4.perm hp3
        have hg5 := hst5.get (i := 0) rfl
        refine ⟨_, run_beginRound hg5 rfl, ?_⟩
        have hst6 := hst5.putObj (i := 0) rfl (rc .busy none)
        have hp4 : ((l, rc .busy none) :: (Y ++ (((bd, .deferred (some [])) :: X) ++ F))).Perm (Y ++ (((l, rc .busy none) :: (bd, .deferred (some [])) :: X) ++ F)) := (perm_mid Y [(l, rc .busy none)] _).symm
        refine w_mono (hbody _ (hst6.perm hp4)) ?_
        have back : ∀ (B' : List (Nat × Obj)) (w : World) (s : LoopState) (pend : Option Code), St w0 w (B' ++ (((l, rc .busy none) :: (bd, .deferred (some [])) :: X) ++ F)) → w.heap[l]? = some (rc .busy none) ∧
            St w0 (w.putObj l (rc s pend)) (X ++ (((l, rc s pend) :: (bd, .deferred (some [])) :: B') ++ F)) := by
          intro B' w s pend h
          have h1 := h.perm (perm_mid B' [(l, rc .busy none)] (((bd, .deferred (some [])) :: X) ++ F))
          refine ⟨h1.get (i := 0) rfl, ?_⟩
          have h2 := h1.putObj (i := 0) rfl (rc s pend)
          refine h2.perm ?_
          show ((l, rc s pend) :: (B' ++ (((bd, .deferred (some [])) :: X) ++ F))).Perm _
          refine (List.Perm.cons _ (perm_mid B' [(bd, .deferred (some []))] (X ++ F))).trans ?_
          refine (List.Perm.cons _ (List.Perm.cons _ (perm_mid B' X F))).trans ?_
          exact (perm_mid X [(l, rc s pend), (bd, .deferred (some []))] (B' ++ F)).symm
        intro e a' w' hq
        cases e with
        | normal =>
          obtain ⟨B', hs, hJ⟩ := hq
          obtain ⟨hb1, hb2⟩ := back B' w' .ready none hs
          exact ⟨_, _, run_endRound none hb1, _, rfl, _, hb2, .inl ⟨rfl, B', rfl, hJ⟩⟩
        | ret =>
          obtain ⟨B', hs, hJ⟩ := hq
          obtain ⟨hb1, hb2⟩ := back B' w' .done (some .ret) hs
          exact ⟨_, _, run_endRound (some .ret) hb1, _, rfl, _, hb2, .inr ⟨rfl, B', _, rfl, hJ⟩⟩
        | exit id =>
          obtain ⟨B', hs, hJ⟩ := hq
          obtain ⟨hb1, hb2⟩ := back B' w' .done (some (.exit id)) hs
          exact ⟨_, _, run_endRound (some (.exit id)) hb1, _, rfl, _, hb2, .inr ⟨rfl, B', _, rfl, hJ⟩⟩
        | goto t => exact hq.elim
        | panic c => exact hq.elim
        | outgrown => exact hq.elim

end Go.Rt
/- Walks of this seat, printed by gen.py over the engine: what each function returns, in whatever world. No conditions but those of each contract. -/
set_option linter.unusedVariables false
set_option linter.unusedSimpArgs false
set_option maxRecDepth 20000
namespace Go.Proofs
open Go.Rt Go.Rt.Ha
attribute [local irreducible] WL WC Con Yd At Ats Sl Agree DW
theorem Try_E_fb0 (x0 : Option Addr) (l0 c0 : Nat) (x1 : Option Addr) (l1 c1 : Nat) (x2 : Option Addr) (l2 c2 : Nat) (x3 : Int) (x4 : Option Nat) (w : World) : (Instr.build 145 [(0, .agg #[.slice x0 l0 c0, .slice x1 l1 c1, .slice x2 l2 c2]), (1, .int .i64 x3), (2, .map x4)].toArray).run Try.prog w = .ok (.agg #[.slice x0 l0 c0, .slice x1 l1 c1, .slice x2 l2 c2, .int .i64 x3, .map x4]) w := by kernel_rfl
/-- A lot that lies opened in memory. -/
structure LK (w0 : World) (F : List (Nat × Obj)) (l : Lot) (p : At3) (but lb mm : Nat) : Prop where
  i : LIn w0 F l p
  b : Ats w0 F lb 0 [.slice p.ag l.grades.length p.cg, .slice p.ab l.bunches.length p.cb, .slice p.ac l.counts.length p.cc, .int .i64 (but : Int), .map (some mm)]
  ok : l.Ok
  bt : but < 1000
theorem LK.mono {w0 : World} {F F' : List (Nat × Obj)} {l : Lot} {p : At3} {but lb mm : Nat} (h : LK w0 F l p but lb mm) (hs : ∀ w, St w0 w F' → St w0 w F) : LK w0 F' l p but lb mm := ⟨h.i.mono hs, h.b.mono hs, h.ok, h.bt⟩
theorem LK.cons {w0 : World} {F : List (Nat × Obj)} {x : Nat × Obj} {l : Lot} {p : At3} {but lb mm : Nat} (h : LK w0 F l p but lb mm) : LK w0 (x :: F) l p but lb mm := h.mono fun _ h => h.tail
theorem LK.app {w0 : World} {F B : List (Nat × Obj)} {l : Lot} {p : At3} {but lb mm : Nat} (h : LK w0 F l p but lb mm) : LK w0 (B ++ F) l p but lb mm := h.mono fun _ h => h.drop
theorem counted_takeD {bits : Nat} {h : List Int} {b : Nat} (hb : b < h.length) : counted bits 0 (h.take (b + 1)) = counted bits 0 (h.take b) + h.getD b 0 * ((bit bits b : Nat) : Int) := by
  rw [counted_take hb]; simp [List.getD, hb]
theorem mul_bit {a : Int} (bits b : Nat) (h0 : 0 ≤ a) (h1 : a ≤ 12) : 0 ≤ a * ((bit bits b : Nat) : Int) ∧ a * ((bit bits b : Nat) : Int) ≤ 12 := by
  rcases bit01 bits b with h | h <;> rw [h] <;> simp <;> omega
theorem getD_12 {h : List Int} (hh : ∀ z ∈ h, 0 ≤ z ∧ z ≤ 12) (b : Nat) : 0 ≤ h.getD b 0 ∧ h.getD b 0 ≤ 12 := by
  by_cases hb : b < h.length
  · simp only [List.getD, List.getElem?_eq_getElem hb, Option.getD_some]; exact hh _ (List.getElem_mem hb)
  · simp [List.getD, List.getElem?_eq_none (by omega : h.length ≤ b)]
theorem pow64 {n : Nat} (h : n ≤ 6) : (2:Int) ^ n ≤ 64 := by
  match n, h with
  | 0, _ => decide
  | 1, _ => decide
  | 2, _ => decide
  | 3, _ => decide
  | 4, _ => decide
  | 5, _ => decide
  | 6, _ => decide
theorem iv1 {a b : Int} (h : a = b) : [Value.int .i64 a] = [Value.int .i64 b] := by rw [h]
theorem iv2 {a b c d : Int} (h : a = b) (h2 : c = d) : [Value.int .i64 a, Value.int .i64 c] = [Value.int .i64 b, Value.int .i64 d] := by rw [h, h2]
theorem c107 {w0 w : World} {F : List (Nat × Obj)} (l : Lot) (p : At3) (but lb mm : Nat) (hk : LK w0 F l p but lb mm) (h : List Int) (h6 : h.length = 6) (hh : ∀ z ∈ h, 0 ≤ z ∧ z ≤ 12) (hs : St w0 w F) :
  Con Try.prog 107 [.pointer (some ⟨lb, 0, none⟩), ia h] w fun v w' => v = .bool (soFrom but h 0 l.counts) ∧ St w0 w' F := by
  refine con_of_wc (n := 51) Try.func107 rfl rfl (Nat.le_of_ble_eq_true rfl) ?_
  obtain ⟨ag, cg, ab, cb, ac, cc⟩ := p
  have hb := hk.b
  have hbt := hk.bt
  have hlg := hk.ok.lg
  have hlb := hk.ok.lb
  have hlc := hk.ok.lc
  refine w_seq (fun K2 hK1 => ?_)
  refine w_region ?_
  refine w_boxI (l := _) want_none rfl rfl rfl hs (fun b3 w4 hs5 => ?_)
  refine w_pure want_none (y_assign (v := _) rfl rfl) rfl ?_
  refine w_nil ?_
  refine q_then (hK1 _ _ ?_)
  refine w_seq (fun K7 hK6 => ?_)
  refine w_seq (fun K9 hK8 => ?_)
  refine w_region ?_
  refine w_pure want_none (y_move (v := .pointer _) rfl rfl) rfl ?_
  refine w_pure want_none (y_nilCheck rfl rfl) rfl ?_
  refine w_pure want_none (y_fieldAddr (o := 0) (i := 0) Try.underlying145 rfl Try.sizeOf26 rfl rfl rfl) rfl ?_
  refine w_pure want_none (y_fieldAddr (o := 2) (i := 2) Try.underlying26 rfl Try.sizeOf24 rfl rfl rfl) rfl ?_
  refine w_pure want_none (y_load1 Try.isAgg24 hs5.tail rfl rfl (show Ats _ _ _ _ [_] from Ats.part hb 2 1)) rfl ?_
  refine w_pure want_none (y_lenS Try.underlying24 rfl rfl) rfl ?_
  refine w_pure want_none (y_move (v := _) rfl rfl) rfl ?_
  refine w_nil ?_
  refine q_then (hK8 _ _ ?_)
  refine w_block ?_
  refine w_loop [4, 5, 6, 7, 8, 9, 16, 17, 18, 19, 20, 21, 22, 23, 24, 25, 26, 27, 28, 29, 30, 31, 32, 33, 34, 35, 36, 37, 38, 39, 40, 41, 42, 43, 44, 45, 46, 47, 48, 49, 50] [16] (fun k vs w => ∃ (i : Nat), vs = [.int .i64 i] ∧ i ≤ l.counts.length ∧ k = l.counts.length - i ∧ soFrom but h 0 l.counts = soFrom but h i (l.counts.drop i) ∧ St w0 w ((b3, blk 121 (iv h)) :: F)) (l.counts.length) ?_ ?_
  ·
   exact ⟨0, rfl, by omega, by omega, rfl, hs5⟩
  ·
   intro k vs μ w12 hI K11 hN10
   obtain ⟨i, rfl, hia, rfl, hinv, hs⟩ := hI
   refine w_seq (fun K14 hK13 => ?_)
   refine w_region ?_
   refine w_pure want_none (y_lss rfl rfl rfl rfl) rfl ?_
   refine w_nil ?_
   refine q_then (hK13 _ _ ?_)
   refine w_seq (fun K16 hK15 => ?_)
   refine w_cond rfl rfl (fun h17 => ?_) (fun h17 => ?_)
   ·
    try simp only [Bool.not_eq_true', Bool.not_eq_false', decide_eq_true_eq, decide_eq_false_iff_not, Int.not_lt, Int.not_le] at h17
    refine w_skip ?_
    refine q_then (hK15 _ _ ?_)
    refine w_seq (fun K19 hK18 => ?_)
    refine w_block ?_
    refine w_seq (fun K21 hK20 => ?_)
    have hi2 : i < l.counts.length := by omega
    obtain ⟨bx, ox, hbx, hx⟩ := sl_crows hk.i.c hi2
    subst hbx
    have hcx := hk.ok.count _ (List.getElem_mem hi2)
    have hp63 := pow64 hlb
    have hb01 := bit01 but i
    refine w_region ?_
    refine w_pure want_none (y_move (v := .int _ _) rfl rfl) rfl ?_
    refine w_pure want_none (y_indexS Try.underlying24 Try.sizeOf51 rfl rfl rfl rfl (i := _) rfl (by omega)) rfl ?_
    refine w_pure want_none (y_loadN (vs := [_, _]) Try.isAgg51 Try.sizeOf51 hs.tail rfl rfl hx) rfl ?_
    refine w_alloc (cs := [_, _]) want_none Try.zeroValue51 rfl hs (fun b22 w23 hs24 => ?_)
    refine w_pure want_none (y_assign (v := .int _ _) rfl rfl) rfl ?_
    refine w_store (i := 0) (v := .agg #[.int _ _, .int _ _]) (vs := [_, _]) want_none Try.sizeOf51 rfl rfl rfl rfl rfl (by simp [Value.oneCell']) hs24 rfl (Nat.le_of_ble_eq_true rfl) (fun w25 hs26 => ?_)
    refine w_nil ?_
    refine q_then (hK20 _ _ ?_)
    refine w_seq (fun K28 hK27 => ?_)
    refine w_region ?_
    refine w_pure want_none (y_assign (v := _) rfl rfl) rfl ?_
    refine w_nil ?_
    refine q_then (hK27 _ _ ?_)
    refine w_seq (fun K30 hK29 => ?_)
    refine w_seq (fun K32 hK31 => ?_)
    refine w_region ?_
    refine w_pure want_none (y_loadI (i := 1) Try.isAgg121 Try.sizeOf121 (by first | omega | rfl | (simp only [h6, List.length_map, List.length_set, List.length_append, List.length_take, List.length_drop, List.length_replicate, List.length_cons, List.length_nil] <;> omega)) hs26 rfl rfl rfl) rfl ?_
    refine w_pure want_none (y_move (v := _) rfl rfl) rfl ?_
    refine w_nil ?_
    refine q_then (hK31 _ _ ?_)
    refine w_block ?_
    refine w_loop [7, 8, 9, 22, 23, 24, 25, 26, 27, 28, 29, 30, 31, 32, 33, 34, 35] [7, 22] (fun k vs w => ∃ (b : Nat), vs = [.int .i64 (counted (l.counts[i]'hi2).bits.toNat 0 (h.take b)), .int .i64 b] ∧ b ≤ 6 ∧ k = 6 - b ∧ St w0 w ((b22, blk 51 (Count.cells (l.counts[i]'hi2))) :: (b3, blk 121 (iv h)) :: F)) (6) ?_ ?_
    ·
     exact ⟨0, rfl, by omega, by omega, hs26⟩
    ·
     intro k vs μ w35 hI K34 hN33
     obtain ⟨b, rfl, hba, rfl, hs⟩ := hI
     refine w_seq (fun K37 hK36 => ?_)
     refine w_region ?_
     refine w_pure want_none (y_lss rfl rfl rfl rfl) rfl ?_
     refine w_nil ?_
     refine q_then (hK36 _ _ ?_)
     refine w_seq (fun K39 hK38 => ?_)
     refine w_cond rfl rfl (fun h40 => ?_) (fun h40 => ?_)
     ·
      try simp only [Bool.not_eq_true', Bool.not_eq_false', decide_eq_true_eq, decide_eq_false_iff_not, Int.not_lt, Int.not_le] at h40
      refine w_skip ?_
      refine q_then (hK38 _ _ ?_)
      refine w_seq (fun K42 hK41 => ?_)
      refine w_block ?_
      refine w_seq (fun K44 hK43 => ?_)
      have hb6 : b < 6 := by omega
      refine w_region ?_
      refine w_pure want_none (y_move (v := .int _ _) rfl rfl) rfl ?_
      refine w_pure want_none (y_indexV (i := b) Try.underlying121 Try.underlying3 Try.sizeOf3 rfl rfl rfl rfl rfl rfl (by omega) (by first | omega | rfl | (simp only [h6, List.length_map, List.length_set, List.length_append, List.length_take, List.length_drop, List.length_replicate, List.length_cons, List.length_nil] <;> omega))) rfl ?_
      refine w_pure want_none (y_assign (v := .int _ _) rfl rfl) rfl ?_
      refine w_pure want_none (y_assign (v := .int _ _) rfl rfl) rfl ?_
      refine w_nil ?_
      refine q_then (hK43 _ _ ?_)
      have hcb := counted_bound (bits := (l.counts[i]'hi2).bits.toNat) hh b (by omega)
      have hg := getD_12 hh b
      have hmb := mul_bit (l.counts[i]'hi2).bits.toNat b hg.1 hg.2
      refine w_region ?_
      refine w_pure want_none (y_move (v := .int _ _) rfl rfl) rfl ?_
      refine w_pure want_none (y_move (v := .int _ _) rfl rfl) rfl ?_
      refine w_pure want_none (y_fieldAddr (o := 0) (i := 0) Try.underlying51 rfl Try.sizeOf3 rfl rfl rfl) rfl ?_
      refine w_pure want_none (y_load1 Try.isAgg3 hs rfl rfl (ats_own (i := 0) (vs := [_]) rfl rfl)) rfl ?_
      refine w_pure want_none (y_move (v := .int _ _) rfl rfl) rfl ?_
      refine w_pure want_none (y_shr (x := (l.counts[i]'hi2).bits.toNat) (y := b) rfl rfl rfl rfl (by first | rfl | omega) (by first | rfl | omega) (by first | omega | exact shr_lt (by omega))) rfl ?_
      refine w_pure want_none (show Yd _ _ _ _ (.int .i64 ((bit (l.counts[i]'hi2).bits.toNat b : Nat) : Int)) from (y_and (x := _) (y := 1) rfl rfl rfl rfl rfl rfl (by first | omega | exact shr_lt (by omega)) (by first | omega | exact shr_lt (by omega)))) rfl ?_
      refine w_pure want_none (y_mul rfl rfl rfl rfl (by omega) (by omega)) rfl ?_
      refine w_pure want_none (y_add rfl rfl rfl rfl (by omega) (by omega)) rfl ?_
      refine w_pure want_none (y_assign (v := .int _ _) rfl rfl) rfl ?_
      refine w_nil ?_
      refine q_blk_normal ?_
      refine q_then (hK41 _ _ ?_)
      refine w_region ?_
      refine w_pure want_none (y_add rfl rfl rfl rfl (by omega) (by omega)) rfl ?_
      refine w_pure want_none (y_move (v := .int _ _) rfl rfl) rfl ?_
      refine w_nil ?_
      refine q_then (hN33 _ _ (Nx.intro (6 - (b + 1)) (by omega) (by repeat (first | exact agree_mix | refine agree_upd rfl ?_ | refine agree_updL rfl ?_ _ | refine agree_mixin rfl ?_)) ?_))
      exact ⟨b + 1, iv2 (counted_takeD (by omega)).symm rfl, by omega, rfl, hs⟩
     ·
      try simp only [Bool.not_eq_true', Bool.not_eq_false', decide_eq_true_eq, decide_eq_false_iff_not, Int.not_lt, Int.not_le] at h40
      refine w_exit ?_
      refine q_then_exit ?_
      refine q_then_exit ?_
      refine q_blk_this ?_
      refine q_then (hK29 _ _ ?_)
      refine w_seq (fun K46 hK45 => ?_)
      have hct : counted (l.counts[i]'hi2).bits.toNat 0 (h.take b) = counted (l.counts[i]'hi2).bits.toNat 0 h := by rw [List.take_of_length_le (by omega)]
      refine w_region ?_
      refine w_pure want_none (y_move (v := .pointer _) rfl rfl) rfl ?_
      refine w_pure want_none (y_nilCheck rfl rfl) rfl ?_
      refine w_pure want_none (y_fieldAddr (o := 3) (i := 1) Try.underlying145 rfl Try.sizeOf3 rfl rfl rfl) rfl ?_
      refine w_pure want_none (y_load1 Try.isAgg3 hs.tail.tail rfl rfl (show Ats _ _ _ _ [_] from Ats.part hb 3 1)) rfl ?_
      refine w_pure want_none (y_move (v := .int _ _) rfl rfl) rfl ?_
      refine w_pure want_none (y_shr (x := but) (y := i) rfl rfl rfl rfl (by first | rfl | omega) (by first | rfl | omega) (by first | omega | exact shr_lt (by omega))) rfl ?_
      refine w_pure want_none (show Yd _ _ _ _ (.int .i64 ((bit but i : Nat) : Int)) from (y_and (x := _) (y := 1) rfl rfl rfl rfl rfl rfl (by first | omega | exact shr_lt (by omega)) (by first | omega | exact shr_lt (by omega)))) rfl ?_
      refine w_pure want_none (y_eql rfl rfl rfl rfl) rfl ?_
      refine w_pure want_none (y_move (v := .bool _) rfl rfl) rfl ?_
      refine w_split (fun h47 => ?_) (fun h47 => ?_)
      ·
       try simp only [Bool.not_eq_true', Bool.not_eq_false', decide_eq_true_eq, decide_eq_false_iff_not, Int.not_lt, Int.not_le] at h47
       refine w_pure (want_yes rfl rfl rfl) (y_move (v := .int _ _) rfl rfl) rfl ?_
       refine w_pure (want_yes rfl rfl rfl) (y_fieldAddr (o := 1) (i := 1) Try.underlying51 rfl Try.sizeOf3 rfl rfl rfl) rfl ?_
       refine w_pure (want_yes rfl rfl rfl) (y_load1 Try.isAgg3 hs rfl rfl (ats_own (i := 0) (vs := [_]) rfl rfl)) rfl ?_
       refine w_pure (want_yes rfl rfl rfl) (y_neq rfl rfl rfl rfl) rfl ?_
       refine w_pure want_none (y_pickT (v := .bool _) rfl rfl rfl rfl) rfl ?_
       refine w_nil ?_
       refine q_then (hK45 _ _ ?_)
       refine w_cond rfl rfl (fun h48 => ?_) (fun h48 => ?_)
       ·
        try simp only [Bool.not_eq_true', Bool.not_eq_false', decide_eq_true_eq, decide_eq_false_iff_not, Int.not_lt, Int.not_le] at h48
        refine w_seq (fun K50 hK49 => ?_)
        refine w_region ?_
        refine w_pure want_none (y_assign (v := _) rfl rfl) rfl ?_
        refine w_nil ?_
        refine q_then (hK49 _ _ ?_)
        refine w_ret ?_
        refine q_blk_ret ?_
        refine q_then_ret ?_
        refine q_then_ret ?_
        refine q_blk_ret ?_
        refine q_then_ret ?_
        refine q_ret (l := [.tmp 4]) (vs := [_]) rfl ⟨⟨rfl, show _ = (.bool _ : Value) from rfl⟩, trivial⟩ ?_
        first
          | exact ⟨congrArg Value.bool (hinv.trans (so_no hi2 (by omega) (by omega))).symm, hs.tail.tail⟩
          | exact ⟨congrArg Value.bool (hinv.trans (so_end (by omega))).symm, hs.tail.tail⟩
       ·
        try simp only [Bool.not_eq_true', Bool.not_eq_false', decide_eq_true_eq, decide_eq_false_iff_not, Int.not_lt, Int.not_le] at h48
        refine w_skip ?_
        refine q_blk_normal ?_
        refine q_then (hK18 _ _ ?_)
        refine w_region ?_
        refine w_pure want_none (y_add rfl rfl rfl rfl (by omega) (by omega)) rfl ?_
        refine w_pure want_none (y_move (v := .int _ _) rfl rfl) rfl ?_
        refine w_nil ?_
        refine q_then (hN10 _ _ (Nx.intro (l.counts.length - (i + 1)) (by omega) (by repeat (first | exact agree_mix | refine agree_upd rfl ?_ | refine agree_updL rfl ?_ _ | refine agree_mixin rfl ?_)) ?_))
        exact ⟨i + 1, rfl, by omega, rfl, hinv.trans (so_yes hi2 (by omega)), hs.tail⟩
      ·
       try simp only [Bool.not_eq_true', Bool.not_eq_false', decide_eq_true_eq, decide_eq_false_iff_not, Int.not_lt, Int.not_le] at h47
       refine w_skipop rfl rfl rfl ?_
       refine w_skipop rfl rfl rfl ?_
       refine w_skipop rfl rfl rfl ?_
       refine w_skipop rfl rfl rfl ?_
       refine w_pure want_none (y_pickF (v := _) rfl rfl rfl rfl) rfl ?_
       refine w_nil ?_
       refine q_then (hK45 _ _ ?_)
       refine w_condF rfl rfl ?_
       refine w_skip ?_
       refine q_blk_normal ?_
       refine q_then (hK18 _ _ ?_)
       refine w_region ?_
       refine w_pure want_none (y_add rfl rfl rfl rfl (by omega) (by omega)) rfl ?_
       refine w_pure want_none (y_move (v := .int _ _) rfl rfl) rfl ?_
       refine w_nil ?_
       refine q_then (hN10 _ _ (Nx.intro (l.counts.length - (i + 1)) (by omega) (by repeat (first | exact agree_mix | refine agree_upd rfl ?_ | refine agree_updL rfl ?_ _ | refine agree_mixin rfl ?_)) ?_))
       exact ⟨i + 1, rfl, by omega, rfl, hinv.trans (so_yes hi2 (by omega)), hs.tail⟩
   ·
    try simp only [Bool.not_eq_true', Bool.not_eq_false', decide_eq_true_eq, decide_eq_false_iff_not, Int.not_lt, Int.not_le] at h17
    refine w_exit ?_
    refine q_then_exit ?_
    refine q_then_exit ?_
    refine q_blk_this ?_
    refine q_then (hK6 _ _ ?_)
    refine w_seq (fun K52 hK51 => ?_)
    refine w_region ?_
    refine w_pure want_none (y_assign (v := _) rfl rfl) rfl ?_
    refine w_nil ?_
    refine q_then (hK51 _ _ ?_)
    refine w_ret ?_
    refine q_ret (l := [.tmp 4]) (vs := [_]) rfl ⟨⟨rfl, show _ = (.bool _ : Value) from rfl⟩, trivial⟩ ?_
    first
      | exact ⟨congrArg Value.bool (hinv.trans (so_no hi2 (by omega) (by omega))).symm, hs.tail⟩
      | exact ⟨congrArg Value.bool (hinv.trans (so_end (by omega))).symm, hs.tail⟩

theorem c90 {w0 w : World} {F : List (Nat × Obj)} (l : Lot) (p : At3) (but : Nat) (hs : St w0 w F) :
  Con Try.prog 90 [.agg (l.cells p).toArray, .int .i64 (but : Int)] w fun v w' => ∃ lb mm, v = .pointer (some ⟨lb, 0, none⟩) ∧ St w0 w' ((lb, blk 145 [.slice p.ag l.grades.length p.cg, .slice p.ab l.bunches.length p.cb, .slice p.ac l.counts.length p.cc, .int .i64 (but : Int), .map (some mm)]) :: (mm, .map #[] 0) :: F) := by
  refine con_of_wc (n := 10) Try.func90 rfl rfl (Nat.le_of_ble_eq_true rfl) ?_
  refine w_seq (fun K2 hK1 => ?_)
  refine w_region ?_
  refine w_box (v := .agg #[.slice _ _ _, .slice _ _ _, .slice _ _ _]) (cs := [_, _, _]) want_none rfl rfl rfl hs (fun b3 w4 hs5 => ?_)
  refine w_pure want_none (y_assign (v := _) rfl rfl) rfl ?_
  refine w_nil ?_
  refine q_then (hK1 _ _ ?_)
  refine w_seq (fun K7 hK6 => ?_)
  refine w_region ?_
  refine w_pure want_none (y_loadN (vs := [_, _, _]) Try.isAgg26 Try.sizeOf26 hs5 rfl rfl (ats_own (i := 0) (vs := [_, _, _]) rfl rfl)) rfl ?_
  refine w_pure want_none (y_move (v := .int _ _) rfl rfl) rfl ?_
  refine w_makeMap want_none hs5 (fun b8 w9 hs10 => ?_)
  refine w_pure want_none (y_build (ps := [(0, _), (1, _), (2, _)]) (pv := [(0, .agg #[.slice _ _ _, .slice _ _ _, .slice _ _ _]), (1, .int _ _), (2, .map _)]) rfl rfl (fun w => Try_E_fb0 _ _ _ _ _ _ _ _ _ _ _ w)) rfl ?_
  refine w_box (v := .agg #[.slice _ _ _, .slice _ _ _, .slice _ _ _, .int _ _, .map _]) (cs := [_, _, _, _, _]) want_none rfl rfl rfl hs10 (fun b11 w12 hs13 => ?_)
  refine w_pure want_none (y_assign (v := .pointer _) rfl rfl) rfl ?_
  refine w_nil ?_
  refine q_then (hK6 _ _ ?_)
  refine w_ret ?_
  refine q_ret (l := [.tmp 4]) (vs := [_]) rfl ⟨⟨rfl, show _ = (.pointer _ : Value) from rfl⟩, trivial⟩ ?_
  exact ⟨_, _, rfl, (St.perm (L := [_, _, _] ++ F) hs13 (perm_mid [_, _] [_] F)).tail⟩

end Go.Proofs
