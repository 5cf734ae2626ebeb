/- Own texts of this claim, joined. No conditions. -/
import Derived.Test.YtbnnmjfjibneaaaHShopOrdera
import Derived.Test.YtbnnmjfjibneaaaHShopOrderb
import Derived.Test.YtbnnmjfjibneaaaHShopOrderc
import Derived.Test.YtbnnmjfjibneaaaHShopOrderd
import Derived.Test.YtbnnmjfjibneaaaHShopOrdere
import Derived.Test.YtbnnmjfjibneaaaHShopOrderf
/- Walks of this seat, printed by gen.py over the engine: what each function returns, in whatever world. No conditions but those of each contract. -/
set_option linter.unusedVariables false
set_option linter.unusedSimpArgs false
set_option maxRecDepth 20000
namespace Go.Proofs
open Go.Rt Go.Rt.Sh
attribute [local irreducible] WL WC Con Yd At Ats Sl Agree DW
theorem Try_S_fb4 (x0 : Int) (w : World) : (Instr.buildSlice 30 1 [(0, .int .i64 x0)].toArray).run Try.prog w = .ok (.slice (some ⟨w.heap.size, 0, none⟩) 1 1) (w.alloc (Go.Rt.blk 3 [.int .i64 x0])) := by kernel_rfl
theorem bi2 {a b : Bool} {c d : Int} (h : a = b) (k : c = d) : [Value.bool a, Value.int .i64 c] = [Value.bool b, Value.int .i64 d] := by rw [h, k]
theorem c41 {w0 w : World} {F : List (Nat × Obj)} (al : Option Addr) (cl : Nat) (l : List Int) (hll : l.length ≤ 9223372036854775807) (hl : Sl w0 F al 1 (l.map fun x => [Value.int .i64 x])) (z : Int) (hs : St w0 w F) :
  Con Try.prog 41 [.slice al l.length cl, .int .i64 z] w fun v w' => v = .bool (hasI l z) ∧ St w0 w' F := by
  refine con_of_wc (n := 23) Try.func41 rfl rfl (Nat.le_of_ble_eq_true rfl) ?_
  refine w_seq (fun K2 hK1 => ?_)
  refine w_region ?_
  refine w_pure want_none (y_assign (v := _) rfl rfl) rfl ?_
  refine w_nil ?_
  refine q_then (hK1 _ _ ?_)
  refine w_seq (fun K4 hK3 => ?_)
  refine w_region ?_
  refine w_pure want_none (y_assign (v := _) rfl rfl) rfl ?_
  refine w_nil ?_
  refine q_then (hK3 _ _ ?_)
  refine w_seq (fun K6 hK5 => ?_)
  refine w_seq (fun K8 hK7 => ?_)
  refine w_region ?_
  refine w_pure want_none (y_assign (v := _) rfl rfl) rfl ?_
  refine w_nil ?_
  refine q_then (hK7 _ _ ?_)
  refine w_block ?_
  refine w_loop [5, 6, 7, 8, 9, 10, 11, 12, 13, 14, 15, 16, 17, 18, 19, 20, 21] [5, 6] (fun k vs w => ∃ i : Nat, vs = [.bool (hasI (l.take i) z), .int .i64 i] ∧ i ≤ l.length ∧ k = l.length - i ∧ St w0 w F) (l.length) ?_ ?_
  ·
   exact ⟨0, rfl, by omega, by omega, hs⟩
  ·
   intro k vs μ w11 hI K10 hN9
   obtain ⟨i, rfl, hia, rfl, hs⟩ := hI
   generalize hb : hasI (l.take i) z = b
   refine w_seq (fun K13 hK12 => ?_)
   refine w_seq (fun K15 hK14 => ?_)
   refine w_region ?_
   refine w_pure want_none (y_move (v := .int _ _) rfl rfl) rfl ?_
   refine w_pure want_none (y_move (v := .slice _ _ _) rfl rfl) rfl ?_
   refine w_pure want_none (y_lenS Try.underlying30 rfl rfl) rfl ?_
   refine w_pure want_none (y_lss rfl rfl rfl rfl) rfl ?_
   refine w_nil ?_
   refine q_then (hK14 _ _ ?_)
   refine w_cond rfl rfl (fun h16 => ?_) (fun h16 => ?_)
   ·
    try simp only [Bool.not_eq_true', Bool.not_eq_false', decide_eq_true_eq, decide_eq_false_iff_not, Int.not_lt, Int.not_le] at h16
    refine w_skip ?_
    refine q_then (hK12 _ _ ?_)
    refine w_seq (fun K18 hK17 => ?_)
    refine w_block ?_
    have hi2 : i < l.length := by omega
    obtain ⟨bx, ox, hbx, hx⟩ := sl_ints hl hi2
    subst hbx
    refine w_region ?_
    refine w_pure want_none (y_move (v := .bool _) rfl rfl) rfl ?_
    refine w_pure want_none (y_move (v := .bool _) rfl rfl) rfl ?_
    refine w_split (fun h19 => ?_) (fun h19 => ?_)
    ·
     subst h19
     refine w_skipop rfl rfl rfl ?_
     refine w_skipop rfl rfl rfl ?_
     refine w_skipop rfl rfl rfl ?_
     refine w_skipop rfl rfl rfl ?_
     refine w_skipop rfl rfl rfl ?_
     refine w_skipop rfl rfl rfl ?_
     refine w_pure want_none (y_pickT (v := _) rfl rfl rfl rfl) rfl ?_
     refine w_pure want_none (y_assign (v := .bool _) rfl rfl) rfl ?_
     refine w_nil ?_
     refine q_blk_normal ?_
     refine q_then (hK17 _ _ ?_)
     refine w_region ?_
     refine w_pure want_none (y_move (v := .int _ _) rfl rfl) rfl ?_
     refine w_pure want_none (y_add rfl rfl rfl rfl (by omega) (by omega)) rfl ?_
     refine w_pure want_none (y_assign (v := .int _ _) rfl rfl) rfl ?_
     refine w_nil ?_
     refine q_then (hN9 _ _ (Nx.intro (l.length - (i + 1)) (by omega) (by repeat (first | exact agree_mix | refine agree_upd rfl ?_ | refine agree_updL rfl ?_ _ | refine agree_mixin rfl ?_)) ?_))
     first
       | exact ⟨i + 1, bi2 (by rw [hasI_succ hi2, hb]; simp) rfl, by omega, rfl, hs⟩
       | exact ⟨i + 1, bi2 (by rw [hasI_succ hi2, hb]; rfl) rfl, by omega, rfl, hs⟩
    ·
     subst h19
     refine w_pure (want_yes rfl rfl rfl) (y_move (v := .slice _ _ _) rfl rfl) rfl ?_
     refine w_pure (want_yes rfl rfl rfl) (y_move (v := .int _ _) rfl rfl) rfl ?_
     refine w_pure (want_yes rfl rfl rfl) (y_indexS Try.underlying30 Try.sizeOf3 rfl rfl rfl rfl (i := _) rfl (by omega)) rfl ?_
     refine w_pure (want_yes rfl rfl rfl) (y_load1 Try.isAgg3 hs rfl rfl hx) rfl ?_
     refine w_pure (want_yes rfl rfl rfl) (y_move (v := .int _ _) rfl rfl) rfl ?_
     refine w_pure (want_yes rfl rfl rfl) (y_eql rfl rfl rfl rfl) rfl ?_
     refine w_pure want_none (y_pickF (v := .bool _) rfl rfl rfl rfl) rfl ?_
     refine w_pure want_none (y_assign (v := .bool _) rfl rfl) rfl ?_
     refine w_nil ?_
     refine q_blk_normal ?_
     refine q_then (hK17 _ _ ?_)
     refine w_region ?_
     refine w_pure want_none (y_move (v := .int _ _) rfl rfl) rfl ?_
     refine w_pure want_none (y_add rfl rfl rfl rfl (by omega) (by omega)) rfl ?_
     refine w_pure want_none (y_assign (v := .int _ _) rfl rfl) rfl ?_
     refine w_nil ?_
     refine q_then (hN9 _ _ (Nx.intro (l.length - (i + 1)) (by omega) (by repeat (first | exact agree_mix | refine agree_upd rfl ?_ | refine agree_updL rfl ?_ _ | refine agree_mixin rfl ?_)) ?_))
     first
       | exact ⟨i + 1, bi2 (by rw [hasI_succ hi2, hb]; simp) rfl, by omega, rfl, hs⟩
       | exact ⟨i + 1, bi2 (by rw [hasI_succ hi2, hb]; rfl) rfl, by omega, rfl, hs⟩
   ·
    try simp only [Bool.not_eq_true', Bool.not_eq_false', decide_eq_true_eq, decide_eq_false_iff_not, Int.not_lt, Int.not_le] at h16
    refine w_exit ?_
    refine q_then_exit ?_
    refine q_then_exit ?_
    refine q_blk_this ?_
    refine q_then (hK5 _ _ ?_)
    refine w_seq (fun K21 hK20 => ?_)
    refine w_region ?_
    refine w_pure want_none (y_move (v := .bool _) rfl rfl) rfl ?_
    refine w_pure want_none (y_assign (v := .bool _) rfl rfl) rfl ?_
    refine w_nil ?_
    refine q_then (hK20 _ _ ?_)
    refine w_ret ?_
    refine q_ret (l := [.tmp 4]) (vs := [_]) rfl ⟨⟨rfl, show _ = (.bool _ : Value) from rfl⟩, trivial⟩ ?_
    exact ⟨congrArg Value.bool (by have hil : i = l.length := (by omega); subst hil; rw [List.take_length] at hb; exact hb.symm), hs⟩

theorem c44 {w0 w : World} {F : List (Nat × Obj)} (m : Market) (p : At3) (hm : MIn w0 F m p) (hok : m.Ok) (al : Option Addr) (cl : Nat) (l : List Int) (hll : l.length ≤ 9223372036854775807) (hl : Sl w0 F al 1 (l.map fun x => [Value.int .i64 x]))  (hs : St w0 w F) :
  Con Try.prog 44 [.agg (m.cells p).toArray, .slice al l.length cl] w fun v w' => ∃ B a c, v = .slice a (othersTo l m.shops.length).length c ∧ Sl w0 B a 1 ((othersTo l m.shops.length).map fun x => [Value.int .i64 x]) ∧ St w0 w' (B ++ F) := by
  refine con_of_wc (n := 23) Try.func44 rfl rfl (Nat.le_of_ble_eq_true rfl) ?_
  obtain ⟨ar, cr, as_, cs, at_, ct⟩ := p
  have hls := hok.ls
  refine w_seq (fun K2 hK1 => ?_)
  refine w_region ?_
  refine w_box (v := .agg #[.slice _ _ _, .slice _ _ _, .slice _ _ _]) (cs := [_, _, _]) want_none rfl rfl rfl hs (fun b3 w4 hs5 => ?_)
  refine w_pure want_none (y_assign (v := _) rfl rfl) rfl ?_
  refine w_nil ?_
  refine q_then (hK1 _ _ ?_)
  refine w_seq (fun K7 hK6 => ?_)
  refine w_region ?_
  refine w_pure want_none (y_assign (v := _) rfl rfl) rfl ?_
  refine w_nil ?_
  refine q_then (hK6 _ _ ?_)
  refine w_seq (fun K9 hK8 => ?_)
  refine w_seq (fun K11 hK10 => ?_)
  refine w_region ?_
  refine w_pure want_none (y_assign (v := _) rfl rfl) rfl ?_
  refine w_nil ?_
  refine q_then (hK10 _ _ ?_)
  refine w_block ?_
  refine w_loop [5, 6, 7, 8, 9, 10, 11, 12, 13, 14, 15, 16, 17, 18, 19, 20, 21] [5, 6] (fun k vs w => ∃ (i : Nat) (v : Value) (B : List (Nat × Obj)), vs = [v, .int .i64 i] ∧ i ≤ m.shops.length ∧ k = m.shops.length - i ∧ Rt.Own v 3 1 (othersTo l i).length (iv (othersTo l i)) B ∧ St w0 w ((b3, blk 26 (m.cells ⟨ar, cr, as_, cs, at_, ct⟩)) :: (B ++ F))) (m.shops.length) ?_ ?_
  ·
   exact ⟨0, _, [], rfl, by omega, by omega, own_nil 3 1, hs5⟩
  ·
   intro k vs μ w14 hI K13 hN12
   obtain ⟨i, v, B, rfl, hia, rfl, hown, hs⟩ := hI
   refine w_seq (fun K16 hK15 => ?_)
   refine w_seq (fun K18 hK17 => ?_)
   refine w_region ?_
   refine w_pure want_none (y_move (v := .int _ _) rfl rfl) rfl ?_
   refine w_pure want_none (y_fieldAddr (o := 1) (i := 1) Try.underlying26 rfl Try.sizeOf23 rfl rfl rfl) rfl ?_
   refine w_pure want_none (y_load1 Try.isAgg23 hs rfl rfl (ats_own (i := 0) (vs := [_]) rfl rfl)) rfl ?_
   refine w_pure want_none (y_lenS Try.underlying23 rfl rfl) rfl ?_
   refine w_pure want_none (y_lss rfl rfl rfl rfl) rfl ?_
   refine w_nil ?_
   refine q_then (hK17 _ _ ?_)
   refine w_cond rfl rfl (fun h19 => ?_) (fun h19 => ?_)
   ·
    try simp only [Bool.not_eq_true', Bool.not_eq_false', decide_eq_true_eq, decide_eq_false_iff_not, Int.not_lt, Int.not_le] at h19
    refine w_skip ?_
    refine q_then (hK15 _ _ ?_)
    refine w_seq (fun K21 hK20 => ?_)
    refine w_block ?_
    refine w_seq (fun K23 hK22 => ?_)
    have hgl := othersTo_len l i
    refine w_region ?_
    refine w_pure want_none (y_move (v := .slice _ _ _) rfl rfl) rfl ?_
    refine w_pure want_none (y_move (v := .int _ _) rfl rfl) rfl ?_
    refine w_call want_none Try.call41 rfl rfl rfl rfl (c41 _ _ l hll hl.app.cons _ hs) ?_
    rintro _ w25 ⟨rfl, hs26⟩
    refine w_pure want_none (y_not rfl rfl) rfl ?_
    refine w_nil ?_
    refine q_then (hK22 _ _ ?_)
    refine w_cond rfl rfl (fun h27 => ?_) (fun h27 => ?_)
    ·
     try simp only [Bool.not_eq_true', Bool.not_eq_false', decide_eq_true_eq, decide_eq_false_iff_not, Int.not_lt, Int.not_le] at h27
     refine w_region ?_
     refine w_pure want_none (y_move (v := v) rfl rfl) rfl ?_
     refine w_pure want_none (y_move (v := .int _ _) rfl rfl) rfl ?_
     refine w_bslice (ps := [(0, _)]) (pv := [(0, .int _ _)]) (cs := [_]) want_none rfl rfl (fun w => Try_S_fb4 _ w) hs26 (fun b28 w29 hs30 => ?_)
     refine w_append (X := (_ :: _ :: [])) (B := B) (rows := [[_]]) (sz := 1) (bytes := 8) want_none Try.underlying30 Try_info3 rfl rfl rfl rfl rfl rfl rfl rfl rfl hs30 hown (sl_own (i := 0) rfl (by simp) rfl) rfl (by simp) (by simp [Value.oneCell']) (by simp only [maxLen]; omega) (by omega) (fun v31 w32 B33 ho34 hs35 => ?_)
     replace hs35 := (show St _ _ (_ :: _ :: B33 ++ (F)) from hs35)
     refine w_pure want_none (y_assign (v := v31) rfl rfl) rfl ?_
     refine w_nil ?_
     refine q_blk_normal ?_
     refine q_then (hK20 _ _ ?_)
     refine w_region ?_
     refine w_pure want_none (y_move (v := .int _ _) rfl rfl) rfl ?_
     refine w_pure want_none (y_add rfl rfl rfl rfl (by omega) (by omega)) rfl ?_
     refine w_pure want_none (y_assign (v := .int _ _) rfl rfl) rfl ?_
     refine w_nil ?_
     refine q_then (hN12 _ _ (Nx.intro (m.shops.length - (i + 1)) (by omega) (by repeat (first | exact agree_mix | refine agree_upd rfl ?_ | refine agree_updL rfl ?_ _ | refine agree_mixin rfl ?_)) ?_))
     exact ⟨i + 1, _, _, rfl, by omega, rfl, by rw [othersTo_no (by assumption)]; exact own_snoc ho34, hs35.tail⟩
    ·
     try simp only [Bool.not_eq_true', Bool.not_eq_false', decide_eq_true_eq, decide_eq_false_iff_not, Int.not_lt, Int.not_le] at h27
     refine w_skip ?_
     refine q_blk_normal ?_
     refine q_then (hK20 _ _ ?_)
     refine w_region ?_
     refine w_pure want_none (y_move (v := .int _ _) rfl rfl) rfl ?_
     refine w_pure want_none (y_add rfl rfl rfl rfl (by omega) (by omega)) rfl ?_
     refine w_pure want_none (y_assign (v := .int _ _) rfl rfl) rfl ?_
     refine w_nil ?_
     refine q_then (hN12 _ _ (Nx.intro (m.shops.length - (i + 1)) (by omega) (by repeat (first | exact agree_mix | refine agree_upd rfl ?_ | refine agree_updL rfl ?_ _ | refine agree_mixin rfl ?_)) ?_))
     exact ⟨i + 1, v, B, rfl, by omega, rfl, by rw [othersTo_yes (by assumption)]; exact hown, hs26⟩
   ·
    try simp only [Bool.not_eq_true', Bool.not_eq_false', decide_eq_true_eq, decide_eq_false_iff_not, Int.not_lt, Int.not_le] at h19
    refine w_exit ?_
    refine q_then_exit ?_
    refine q_then_exit ?_
    refine q_blk_this ?_
    refine q_then (hK8 _ _ ?_)
    refine w_seq (fun K37 hK36 => ?_)
    refine w_region ?_
    refine w_pure want_none (y_move (v := v) rfl rfl) rfl ?_
    refine w_pure want_none (y_assign (v := v) rfl rfl) rfl ?_
    refine w_nil ?_
    refine q_then (hK36 _ _ ?_)
    refine w_ret ?_
    refine q_ret (l := [.tmp 4]) (vs := [_]) rfl ⟨⟨rfl, show _ = (v : Value) from rfl⟩, trivial⟩ ?_
    have hil : i = m.shops.length := by omega
    subst hil
    obtain ⟨ag, cg, rfl, hsg⟩ := own_sl_map (w0 := w0) hown rfl []
    rw [List.append_nil] at hsg
    exact ⟨B, ag, cg, rfl, hsg, hs.tail⟩

theorem c48 {w0 w : World} {F : List (Nat × Obj)} (m : Market) (p : At3) (hm : MIn w0 F m p) (hok : m.Ok) (hs : St w0 w F) :
  Con Try.prog 48 [.agg (m.cells p).toArray] w fun v w' => ∃ B a c, v = .slice a (othersTo [] m.shops.length).length c ∧ Sl w0 B a 1 ((othersTo [] m.shops.length).map fun x => [Value.int .i64 x]) ∧ St w0 w' (B ++ F) := by
  refine con_of_wc (n := 5) Try.func48 rfl rfl (Nat.le_of_ble_eq_true rfl) ?_
  refine w_seq (fun K2 hK1 => ?_)
  refine w_region ?_
  refine w_box (v := .agg #[.slice _ _ _, .slice _ _ _, .slice _ _ _]) (cs := [_, _, _]) want_none rfl rfl rfl hs (fun b3 w4 hs5 => ?_)
  refine w_pure want_none (y_assign (v := _) rfl rfl) rfl ?_
  refine w_nil ?_
  refine q_then (hK1 _ _ ?_)
  refine w_seq (fun K7 hK6 => ?_)
  refine w_region ?_
  refine w_pure want_none (y_loadN (vs := [_, _, _]) Try.isAgg26 Try.sizeOf26 hs5 rfl rfl (ats_own (i := 0) (vs := [_, _, _]) rfl rfl)) rfl ?_
  refine w_call want_none Try.call44 rfl rfl rfl rfl (c44 m _ hm.cons hok none 0 [] (by simp) (Sl.nil _ _) hs5) ?_
  rintro _ w9 ⟨B, ag, cg, rfl, hsg, hs10⟩
  replace hs10 := (show St _ _ (B ++ (_ :: F)) from hs10)
  refine w_pure want_none (y_assign (v := .slice _ _ _) rfl rfl) rfl ?_
  refine w_nil ?_
  refine q_then (hK6 _ _ ?_)
  refine w_ret ?_
  refine q_ret (l := [.tmp 2]) (vs := [_]) rfl ⟨⟨rfl, show _ = (.slice _ _ _ : Value) from rfl⟩, trivial⟩ ?_
  exact ⟨B ++ [_], ag, cg, rfl, hsg.top, by rw [List.append_assoc]; exact hs10⟩

end Go.Proofs
/- Walks of this seat, printed by gen.py over the engine: what each function returns, in whatever world. No conditions but those of each contract. -/
set_option linter.unusedVariables false
set_option linter.unusedSimpArgs false
set_option maxRecDepth 20000
namespace Go.Proofs
open Go.Rt Go.Rt.Sh
attribute [local irreducible] WL WC Con Yd At Ats Sl Agree DW

theorem c38 {w0 w : World} {F : List (Nat × Obj)} (al : Option Addr) (cl : Nat) (l : List Int) (hll : l.length ≤ 9223372036854775807) (hl : Sl w0 F al 1 (l.map fun x => [Value.int .i64 x])) (n : Int) (hs : St w0 w F) :
  Con Try.prog 38 [.slice al l.length cl, .int .i64 n] w fun v w' => v = .bool (rising n (-1) l) ∧ St w0 w' F := by
  refine con_of_wc (n := 31) Try.func38 rfl rfl (Nat.le_of_ble_eq_true rfl) ?_
  refine w_seq (fun K2 hK1 => ?_)
  refine w_region ?_
  refine w_pure want_none (y_assign (v := _) rfl rfl) rfl ?_
  refine w_nil ?_
  refine q_then (hK1 _ _ ?_)
  refine w_seq (fun K4 hK3 => ?_)
  refine w_region ?_
  refine w_pure want_none (y_assign (v := _) rfl rfl) rfl ?_
  refine w_nil ?_
  refine q_then (hK3 _ _ ?_)
  refine w_seq (fun K6 hK5 => ?_)
  refine w_seq (fun K8 hK7 => ?_)
  refine w_region ?_
  refine w_pure want_none (y_assign (v := _) rfl rfl) rfl ?_
  refine w_nil ?_
  refine q_then (hK7 _ _ ?_)
  refine w_block ?_
  refine w_loop [4, 5, 6, 7, 8, 9, 10, 11, 12, 13, 14, 15, 16, 17, 18, 19, 20, 21, 22, 23, 24, 25, 26, 27, 28, 29, 30] [5, 6] (fun k vs w => ∃ (i : Nat) (p : Int), vs = [.int .i64 p, .int .i64 i] ∧ i ≤ l.length ∧ k = l.length - i ∧ rising n (-1) l = rising n p (l.drop i) ∧ St w0 w F) (l.length) ?_ ?_
  ·
   exact ⟨0, -1, rfl, by omega, by omega, rfl, hs⟩
  ·
   intro k vs μ w11 hI K10 hN9
   obtain ⟨i, p, rfl, hia, rfl, hri, hs⟩ := hI
   refine w_seq (fun K13 hK12 => ?_)
   refine w_seq (fun K15 hK14 => ?_)
   refine w_region ?_
   refine w_pure want_none (y_move (v := .int _ _) rfl rfl) rfl ?_
   refine w_pure want_none (y_move (v := .slice _ _ _) rfl rfl) rfl ?_
   refine w_pure want_none (y_lenS Try.underlying30 rfl rfl) rfl ?_
   refine w_pure want_none (y_lss rfl rfl rfl rfl) rfl ?_
   refine w_nil ?_
   refine q_then (hK14 _ _ ?_)
   refine w_cond rfl rfl (fun h16 => ?_) (fun h16 => ?_)
   ·
    try simp only [Bool.not_eq_true', Bool.not_eq_false', decide_eq_true_eq, decide_eq_false_iff_not, Int.not_lt, Int.not_le] at h16
    refine w_skip ?_
    refine q_then (hK12 _ _ ?_)
    refine w_seq (fun K18 hK17 => ?_)
    refine w_block ?_
    refine w_seq (fun K20 hK19 => ?_)
    refine w_seq (fun K22 hK21 => ?_)
    have hi2 : i < l.length := by omega
    obtain ⟨bx, ox, hbx, hx⟩ := sl_ints hl hi2
    subst hbx
    refine w_region ?_
    refine w_pure want_none (y_move (v := .slice _ _ _) rfl rfl) rfl ?_
    refine w_pure want_none (y_move (v := .int _ _) rfl rfl) rfl ?_
    refine w_pure want_none (y_indexS Try.underlying30 Try.sizeOf3 rfl rfl rfl rfl (i := _) rfl (by omega)) rfl ?_
    refine w_pure want_none (y_load1 Try.isAgg3 hs rfl rfl hx) rfl ?_
    refine w_pure want_none (y_move (v := .int _ _) rfl rfl) rfl ?_
    refine w_pure want_none (y_leq rfl rfl rfl rfl) rfl ?_
    refine w_pure want_none (y_move (v := .bool _) rfl rfl) rfl ?_
    refine w_split (fun h23 => ?_) (fun h23 => ?_)
    ·
     try simp only [Bool.not_eq_true', Bool.not_eq_false', decide_eq_true_eq, decide_eq_false_iff_not, Int.not_lt, Int.not_le] at h23
     refine w_skipop rfl rfl rfl ?_
     refine w_skipop rfl rfl rfl ?_
     refine w_skipop rfl rfl rfl ?_
     refine w_skipop rfl rfl rfl ?_
     refine w_skipop rfl rfl rfl ?_
     refine w_skipop rfl rfl rfl ?_
     refine w_pure want_none (y_pickT (v := _) rfl rfl rfl rfl) rfl ?_
     refine w_nil ?_
     refine q_then (hK21 _ _ ?_)
     refine w_condT rfl rfl ?_
     refine w_seq (fun K25 hK24 => ?_)
     refine w_region ?_
     refine w_pure want_none (y_assign (v := _) rfl rfl) rfl ?_
     refine w_nil ?_
     refine q_then (hK24 _ _ ?_)
     refine w_ret ?_
     refine q_then_ret ?_
     refine q_blk_ret ?_
     refine q_then_ret ?_
     refine q_then_ret ?_
     refine q_blk_ret ?_
     refine q_then_ret ?_
     refine q_ret (l := [.tmp 4]) (vs := [_]) rfl ⟨⟨rfl, show _ = (.bool _ : Value) from rfl⟩, trivial⟩ ?_
     first
       | exact ⟨congrArg Value.bool (hri.trans (rising_end (by omega))).symm, hs⟩
       | exact ⟨congrArg Value.bool (hri.trans (rising_stop hi2 (by omega))).symm, hs⟩
    ·
     try simp only [Bool.not_eq_true', Bool.not_eq_false', decide_eq_true_eq, decide_eq_false_iff_not, Int.not_lt, Int.not_le] at h23
     refine w_pure (want_yes rfl rfl rfl) (y_move (v := .slice _ _ _) rfl rfl) rfl ?_
     refine w_pure (want_yes rfl rfl rfl) (y_move (v := .int _ _) rfl rfl) rfl ?_
     refine w_pure (want_yes rfl rfl rfl) (y_indexS Try.underlying30 Try.sizeOf3 rfl rfl rfl rfl (i := _) rfl (by omega)) rfl ?_
     refine w_pure (want_yes rfl rfl rfl) (y_load1 Try.isAgg3 hs rfl rfl hx) rfl ?_
     refine w_pure (want_yes rfl rfl rfl) (y_move (v := .int _ _) rfl rfl) rfl ?_
     refine w_pure (want_yes rfl rfl rfl) (y_geq rfl rfl rfl rfl) rfl ?_
     refine w_pure want_none (y_pickF (v := .bool _) rfl rfl rfl rfl) rfl ?_
     refine w_nil ?_
     refine q_then (hK21 _ _ ?_)
     refine w_cond rfl rfl (fun h26 => ?_) (fun h26 => ?_)
     ·
      try simp only [Bool.not_eq_true', Bool.not_eq_false', decide_eq_true_eq, decide_eq_false_iff_not, Int.not_lt, Int.not_le] at h26
      refine w_seq (fun K28 hK27 => ?_)
      refine w_region ?_
      refine w_pure want_none (y_assign (v := _) rfl rfl) rfl ?_
      refine w_nil ?_
      refine q_then (hK27 _ _ ?_)
      refine w_ret ?_
      refine q_then_ret ?_
      refine q_blk_ret ?_
      refine q_then_ret ?_
      refine q_then_ret ?_
      refine q_blk_ret ?_
      refine q_then_ret ?_
      refine q_ret (l := [.tmp 4]) (vs := [_]) rfl ⟨⟨rfl, show _ = (.bool _ : Value) from rfl⟩, trivial⟩ ?_
      first
        | exact ⟨congrArg Value.bool (hri.trans (rising_end (by omega))).symm, hs⟩
        | exact ⟨congrArg Value.bool (hri.trans (rising_stop hi2 (by omega))).symm, hs⟩
     ·
      try simp only [Bool.not_eq_true', Bool.not_eq_false', decide_eq_true_eq, decide_eq_false_iff_not, Int.not_lt, Int.not_le] at h26
      refine w_skip ?_
      refine q_then (hK19 _ _ ?_)
      refine w_region ?_
      refine w_pure want_none (y_move (v := .slice _ _ _) rfl rfl) rfl ?_
      refine w_pure want_none (y_move (v := .int _ _) rfl rfl) rfl ?_
      refine w_pure want_none (y_indexS Try.underlying30 Try.sizeOf3 rfl rfl rfl rfl (i := _) rfl (by omega)) rfl ?_
      refine w_pure want_none (y_load1 Try.isAgg3 hs rfl rfl hx) rfl ?_
      refine w_pure want_none (y_assign (v := .int _ _) rfl rfl) rfl ?_
      refine w_nil ?_
      refine q_blk_normal ?_
      refine q_then (hK17 _ _ ?_)
      refine w_region ?_
      refine w_pure want_none (y_move (v := .int _ _) rfl rfl) rfl ?_
      refine w_pure want_none (y_add rfl rfl rfl rfl (by omega) (by omega)) rfl ?_
      refine w_pure want_none (y_assign (v := .int _ _) rfl rfl) rfl ?_
      refine w_nil ?_
      refine q_then (hN9 _ _ (Nx.intro (l.length - (i + 1)) (by omega) (by repeat (first | exact agree_mix | refine agree_upd rfl ?_ | refine agree_updL rfl ?_ _ | refine agree_mixin rfl ?_)) ?_))
      exact ⟨i + 1, _, rfl, by omega, rfl, hri.trans (rising_step hi2 (by omega) (by omega)), hs⟩
   ·
    try simp only [Bool.not_eq_true', Bool.not_eq_false', decide_eq_true_eq, decide_eq_false_iff_not, Int.not_lt, Int.not_le] at h16
    refine w_exit ?_
    refine q_then_exit ?_
    refine q_then_exit ?_
    refine q_blk_this ?_
    refine q_then (hK5 _ _ ?_)
    refine w_seq (fun K30 hK29 => ?_)
    refine w_region ?_
    refine w_pure want_none (y_assign (v := _) rfl rfl) rfl ?_
    refine w_nil ?_
    refine q_then (hK29 _ _ ?_)
    refine w_ret ?_
    refine q_ret (l := [.tmp 4]) (vs := [_]) rfl ⟨⟨rfl, show _ = (.bool _ : Value) from rfl⟩, trivial⟩ ?_
    first
      | exact ⟨congrArg Value.bool (hri.trans (rising_end (by omega))).symm, hs⟩
      | exact ⟨congrArg Value.bool (hri.trans (rising_stop hi2 (by omega))).symm, hs⟩

end Go.Proofs
/- Walks of this seat, printed by gen.py over the engine: what each function returns, in whatever world. No conditions but those of each contract. -/
set_option linter.unusedVariables false
set_option linter.unusedSimpArgs false
set_option maxRecDepth 20000
namespace Go.Proofs
open Go.Rt Go.Rt.Sh
attribute [local irreducible] WL WC Con Yd At Ats Sl Agree DW
theorem Try_V_fb4 (x0 : Option Addr) (l0 c0 : Nat) (w : World) : (Instr.buildSlice 100 1 [(0, .slice x0 l0 c0)].toArray).run Try.prog w = .ok (.slice (some ⟨w.heap.size, 0, none⟩) 1 1) (w.alloc (Go.Rt.blk 30 [.slice x0 l0 c0])) := by kernel_rfl
theorem Try_V_fb5  (w : World) : (Instr.buildSlice 30 0 [].toArray).run Try.prog w = .ok (.slice (some ⟨w.heap.size, 0, none⟩) 0 0) (w.alloc (Go.Rt.blk 3 [])) := by kernel_rfl
theorem Try_V_fb6 (x0 : Int) (w : World) : (Instr.buildSlice 30 1 [(0, .int .i64 x0)].toArray).run Try.prog w = .ok (.slice (some ⟨w.heap.size, 0, none⟩) 1 1) (w.alloc (Go.Rt.blk 3 [.int .i64 x0])) := by kernel_rfl
theorem Try_info30 : Try.prog.info? 30 = some Try.t30 := by kernel_rfl
/-- Slices of integers, as values: what each reads as. -/
def EL (w0 : World) (L : List (Nat × Obj)) (vs : List Value) (ll : List (List Int)) : Prop :=
  vs.length = ll.length ∧ ∀ k (h : k < ll.length), ∃ b c, vs[k]? = some (.slice b ll[k].length c) ∧ Sl w0 L b 1 (ll[k].map fun x => [Value.int .i64 x]) ∧ (b = none → c = 0)
theorem EL.mono {w0 : World} {L L' : List (Nat × Obj)} {vs : List Value} {ll : List (List Int)} (h : EL w0 L vs ll) (hs : ∀ w, St w0 w L' → St w0 w L) : EL w0 L' vs ll :=
  ⟨h.1, fun k hk => by obtain ⟨b, c, h1, h2, h3⟩ := h.2 k hk; exact ⟨b, c, h1, h2.mono hs, h3⟩⟩
theorem EL.cons {w0 : World} {L : List (Nat × Obj)} {x : Nat × Obj} {vs : List Value} {ll : List (List Int)} (h : EL w0 L vs ll) : EL w0 (x :: L) vs ll := h.mono fun _ h => h.tail
theorem EL.app {w0 : World} {L B : List (Nat × Obj)} {vs : List Value} {ll : List (List Int)} (h : EL w0 L vs ll) : EL w0 (B ++ L) vs ll := h.mono fun _ h => h.drop
theorem EL.top {w0 : World} {B F : List (Nat × Obj)} {vs : List Value} {ll : List (List Int)} (h : EL w0 B vs ll) : EL w0 (B ++ F) vs ll := h.mono fun _ h => h.front
theorem EL.nil (w0 : World) (L : List (Nat × Obj)) : EL w0 L [] [] := ⟨rfl, fun k h => by simp at h⟩
theorem EL.snoc {w0 : World} {L : List (Nat × Obj)} {vs : List Value} {ll : List (List Int)} {b : Option Addr} {c : Nat} {l : List Int} (h : EL w0 L vs ll) (hl : Sl w0 L b 1 (l.map fun x => [Value.int .i64 x])) (hn : b = none → c = 0) : EL w0 L (vs ++ [.slice b l.length c]) (ll ++ [l]) := by
  refine ⟨by simp [h.1], fun k hk => ?_⟩
  rw [List.length_append, List.length_singleton] at hk
  by_cases hkl : k < ll.length
  · obtain ⟨b', c', h1, h2, h3⟩ := h.2 k hkl
    refine ⟨b', c', ?_, ?_, h3⟩
    · rw [List.getElem?_append_left (by rw [h.1]; exact hkl), h1, List.getElem_append_left hkl]
    · rw [List.getElem_append_left hkl]; exact h2
  · have : k = ll.length := by omega
    subst this
    refine ⟨b, c, ?_, ?_, hn⟩
    · rw [List.getElem?_append_right (by rw [h.1]; omega), h.1]; simp
    · simpa using hl
theorem el_at {w0 : World} {L : List (Nat × Obj)} {a : Option Addr} {vs : List Value} {ll : List (List Int)} {k : Nat} (hs : Sl w0 L a 1 (vs.map fun v => [v])) (h : EL w0 L vs ll) (hk : k < ll.length) :
    ∃ b off b2 c2, a = some ⟨b, off, none⟩ ∧ Ats w0 L b (off + k * 1) [.slice b2 ll[k].length c2] ∧ Sl w0 L b2 1 (ll[k].map fun x => [Value.int .i64 x]) ∧ (b2 = none → c2 = 0) := by
  obtain ⟨b2, c2, h1, h2, h3⟩ := h.2 k hk
  obtain ⟨b, off, ha, _, hat⟩ := hs.at (i := k) (row := [.slice b2 ll[k].length c2]) (by rw [List.getElem?_map, h1]; rfl)
  exact ⟨b, off, b2, c2, ha, hat, h2, h3⟩
theorem el_perm {w0 w : World} {a b : Nat × Obj} {B N E R : List (Nat × Obj)} (h : St w0 w (a :: b :: (B ++ (N ++ (E ++ R))))) : St w0 w (N ++ ((B ++ E) ++ R)) := by
  have h1 : St w0 w (B ++ (N ++ (E ++ R))) := h.tail.tail
  have h2 : St w0 w (N ++ (B ++ (E ++ R))) := h1.perm (perm_mid B N (E ++ R))
  rwa [← List.append_assoc B] at h2
theorem el_perm1 {w0 w : World} {a : Nat × Obj} {B N E R : List (Nat × Obj)} (h : St w0 w (a :: (B ++ (N ++ (E ++ R))))) : St w0 w (N ++ ((B ++ E) ++ R)) := by
  have h2 : St w0 w (N ++ (B ++ (E ++ R))) := h.tail.perm (perm_mid B N (E ++ R))
  rwa [← List.append_assoc B] at h2
theorem _root_.Go.Rt.Ats.top {w0 : World} {B F : List (Nat × Obj)} {b off : Nat} {vs : List Value} (h : Ats w0 B b off vs) : Ats w0 (B ++ F) b off vs := h.mono fun _ h => h.front
theorem el_drop2 (N E1 O E F : List (Nat × Obj)) : (N ++ (E1 ++ (O ++ (E ++ F)))).Perm ((O ++ E) ++ (N ++ (E1 ++ F))) := by
  have h := perm_mid (N ++ E1) (O ++ E) F
  simpa only [List.append_assoc] using h
theorem flat_ints (l : List Int) : (l.map fun x => [Value.int .i64 x]).flatten = iv l := by induction l <;> simp_all
theorem ints_one (l : List Int) : ∀ row ∈ (l.map fun x => [Value.int .i64 x]), ∀ u ∈ row, u.oneCell' = true := by
  intro row hr u hu; obtain ⟨x, _, rfl⟩ := List.mem_map.1 hr; simp at hu; subst hu; rfl
/-- A list of one's own, as a slice: nil has no room. -/
theorem own_ints {w0 : World} {v : Value} {l : List Int} {B : List (Nat × Obj)} (h : Rt.Own v 3 1 l.length (iv l) B) : ∃ a c, v = .slice a l.length c ∧ Sl w0 B a 1 (l.map fun x => [Value.int .i64 x]) ∧ (a = none → c = 0) ∧ l.length ≤ c := by
  obtain ⟨a, c, hv, hs⟩ := own_sl_map (w0 := w0) h rfl []
  rw [List.append_nil] at hs
  refine ⟨a, c, hv, hs, fun ha => ?_, ?_⟩
  · rcases h.2 with ⟨h2, _⟩ | ⟨b, cap, cs, h2, _⟩
    · rw [h2] at hv; injection hv with _ _ h3; exact h3.symm
    · rw [h2] at hv; injection hv with h3; rw [ha] at h3; cases h3
  · rcases h.2 with ⟨h2, h3, _⟩ | ⟨b, cap, cs, h2, _, h4, _⟩
    · rw [h2] at hv; injection hv with _ _ h5; omega
    · rw [h2] at hv; injection hv with _ _ h5; omega
theorem own_ints1 {v : Value} {l : List Int} {d : Int} {B : List (Nat × Obj)} (h : Rt.Own v 3 1 (0 + l.length + 1) ([] ++ (l.map fun x => [Value.int .i64 x]).flatten ++ [[Value.int .i64 d]].flatten) B) : Rt.Own v 3 1 (l ++ [d]).length (iv (l ++ [d])) B := by
  rw [flat_ints] at h
  simpa [Nat.add_comm] using h
theorem own_el {v : Value} {ws : List Value} {u : Value} {NB : List (Nat × Obj)} {g : List (List Int)} {x : List Int} (h : Rt.Own v 30 1 (g.length + 1) (ws ++ [[u]].flatten) NB) : Rt.Own v 30 1 (g ++ [x]).length (ws ++ [u]) NB := by simpa using h
theorem yd_slice {P : Program} {a : Act} {o : Oper} {w : World} {x y : Option Addr} {l c : Nat} (h : x = y) (hy : Yd P a o w (.slice x l c)) : Yd P a o w (.slice y l c) := h ▸ hy
theorem sl_own_ints {w0 : World} {L : List (Nat × Obj)} {i b n : Nat} {t : TypeId} {cs : List Value} {l : List Int} (hi : L[i]? = some (b, blk t cs)) (hn : l.length = n) (h : cs.take (n * 1) = iv l) : Sl w0 L (some ⟨b, 0, none⟩) 1 (l.map fun x => [Value.int .i64 x]) :=
  sl_own hi (by intro row hr; obtain ⟨f, _, rfl⟩ := List.mem_map.1 hr; rfl) (by rw [List.length_map, flat_ints, hn]; exact h)
theorem el_more {w0 : World} {B E : List (Nat × Obj)} {ws : List Value} {g : List (List Int)} {a : Option Addr} {c : Nat} {l : List Int} (h : EL w0 E ws g) (hs : Sl w0 B a 1 (l.map fun x => [Value.int .i64 x])) (hn : a = none → c = 0) : EL w0 (B ++ E) (ws ++ [.slice a l.length c]) (g ++ [l]) := h.app.snoc hs.top hn
theorem c93 {w0 w : World} {F : List (Nat × Obj)} (below many : Nat) (hb12 : below ≤ 11) (hm12 : many ≤ 11) (hs : St w0 w F) : Con Try.prog 93 [.int .i64 (below : Int), .int .i64 (many : Int)] w fun v w' => ∃ (B : List (Nat × Obj)) (vs : List Value) (a : Option Addr) (c : Nat), v = .slice a (choices below many).length c ∧ Sl w0 B a 1 (vs.map fun v => [v]) ∧ EL w0 B vs (choices below many) ∧ St w0 w' (B ++ F) := by
  refine con_of_wc (n := 54) Try.func93 rfl rfl (Nat.le_of_ble_eq_true rfl) ?_
  refine w_seq (fun K2 hK1 => ?_)
  refine w_region ?_
  refine w_pure want_none (y_assign (v := _) rfl rfl) rfl ?_
  refine w_nil ?_
  refine q_then (hK1 _ _ ?_)
  refine w_seq (fun K4 hK3 => ?_)
  refine w_region ?_
  refine w_bslice (ps := [(0, _)]) (pv := [(0, .slice _ _ _)]) (cs := [_]) want_none rfl rfl (fun w => Try_V_fb4 _ _ _ w) hs (fun b5 w6 hs7 => ?_)
  refine w_pure want_none (y_assign (v := .slice _ _ _) rfl rfl) rfl ?_
  refine w_nil ?_
  refine q_then (hK3 _ _ ?_)
  refine w_seq (fun K9 hK8 => ?_)
  refine w_seq (fun K11 hK10 => ?_)
  refine w_region ?_
  refine w_pure want_none (y_assign (v := _) rfl rfl) rfl ?_
  refine w_nil ?_
  refine q_then (hK10 _ _ ?_)
  refine w_block ?_
  refine w_loop [5, 6, 7, 8, 9, 10, 12, 13, 14, 15, 16, 17, 18, 19, 20, 21, 22, 23, 24, 25, 26, 27, 28, 29, 30, 31, 32, 33, 34, 35, 36, 37, 38, 39, 40, 41, 42, 43, 44, 45, 46, 47, 48, 49, 50, 51, 52] [5, 6] (fun kk vs0 w => ∃ (i : Nat) (vO : Value) (OB E : List (Nat × Obj)) (vs : List Value), vs0 = [vO, .int .i64 i] ∧ i ≤ many ∧ kk = many - i ∧ Rt.Own vO 30 1 (choices below i).length vs OB ∧ EL w0 E vs (choices below i) ∧ St w0 w (OB ++ (E ++ F))) (many) ?_ ?_
  ·
   exact ⟨0, _, [_], [], [.slice none 0 0], rfl, by omega, by omega, own_lit rfl (by simp [maxLen]), ⟨rfl, fun k hk => ⟨none, 0, by simp [choices] at hk; subst hk; rfl, by simp [choices] at hk; subst hk; exact Sl.nil _ _, fun _ => rfl⟩⟩, hs7⟩
  ·
   intro k vs μ w14 hI K13 hN12
   obtain ⟨i, vO, OB, E, vs, rfl, hia, rfl, hown0, hel, hs⟩ := hI
   refine w_seq (fun K16 hK15 => ?_)
   refine w_seq (fun K18 hK17 => ?_)
   refine w_region ?_
   refine w_pure want_none (y_move (v := .int _ _) rfl rfl) rfl ?_
   refine w_pure want_none (y_move (v := .int _ _) rfl rfl) rfl ?_
   refine w_pure want_none (y_lss rfl rfl rfl rfl) rfl ?_
   refine w_nil ?_
   refine q_then (hK17 _ _ ?_)
   refine w_cond rfl rfl (fun h19 => ?_) (fun h19 => ?_)
   ·
    try simp only [Bool.not_eq_true', Bool.not_eq_false', decide_eq_true_eq, decide_eq_false_iff_not, Int.not_lt, Int.not_le] at h19
    refine w_skip ?_
    refine q_then (hK15 _ _ ?_)
    refine w_seq (fun K21 hK20 => ?_)
    refine w_block ?_
    refine w_seq (fun K23 hK22 => ?_)
    have hi2 : i < many := by omega
    have hcm := choices_max (i := i) hb12 (by omega)
    have hcl := choices_len (below := below) i
    obtain ⟨aO, cO, rfl, hslO⟩ := own_sl_id (w0 := w0) hown0 hel.1 (E ++ F)
    refine w_region ?_
    refine w_pure want_none (y_assign (v := _) rfl rfl) rfl ?_
    refine w_nil ?_
    refine q_then (hK22 _ _ ?_)
    refine w_seq (fun K25 hK24 => ?_)
    refine w_seq (fun K27 hK26 => ?_)
    refine w_region ?_
    refine w_pure want_none (y_assign (v := _) rfl rfl) rfl ?_
    refine w_nil ?_
    refine q_then (hK26 _ _ ?_)
    refine w_block ?_
    refine w_loop [7, 8, 9, 10, 17, 18, 19, 20, 21, 22, 23, 24, 25, 26, 27, 28, 29, 30, 31, 32, 33, 34, 35, 36, 37, 38, 39, 40, 41, 42, 43, 44, 45, 46, 47, 48, 49, 50, 51] [7, 8] (fun kk vs0 w => ∃ (k : Nat) (vN : Value) (NB E1 : List (Nat × Obj)) (ws : List Value), vs0 = [vN, .int .i64 k] ∧ k ≤ (choices below i).length ∧ kk = (choices below i).length - k ∧ Rt.Own vN 30 1 (chTo below i k).length ws NB ∧ EL w0 E1 ws (chTo below i k) ∧ St w0 w (NB ++ (E1 ++ (OB ++ (E ++ F))))) ((choices below i).length) ?_ ?_
    ·
     exact ⟨0, _, [], [], [], rfl, by omega, by omega, own_nil 30 1, EL.nil _ _, hs⟩
    ·
     intro k vs μ w30 hI K29 hN28
     obtain ⟨k, vN, NB, E1, ws, rfl, hka, rfl, hown1, hel1, hs⟩ := hI
     refine w_seq (fun K32 hK31 => ?_)
     refine w_seq (fun K34 hK33 => ?_)
     refine w_region ?_
     refine w_pure want_none (y_move (v := .int _ _) rfl rfl) rfl ?_
     refine w_pure want_none (y_move (v := .slice _ _ _) rfl rfl) rfl ?_
     refine w_pure want_none (y_lenS Try.underlying100 rfl rfl) rfl ?_
     refine w_pure want_none (y_lss rfl rfl rfl rfl) rfl ?_
     refine w_nil ?_
     refine q_then (hK33 _ _ ?_)
     refine w_cond rfl rfl (fun h35 => ?_) (fun h35 => ?_)
     ·
      try simp only [Bool.not_eq_true', Bool.not_eq_false', decide_eq_true_eq, decide_eq_false_iff_not, Int.not_lt, Int.not_le] at h35
      refine w_skip ?_
      refine q_then (hK31 _ _ ?_)
      refine w_seq (fun K37 hK36 => ?_)
      refine w_block ?_
      refine w_seq (fun K39 hK38 => ?_)
      have hk2 : k < (choices below i).length := by omega
      obtain ⟨bx, ox, b2, c2, rfl, hx, hsx0, hnx⟩ := el_at hslO (hel.mono fun _ h => h.drop.front) hk2
      have hxl := (hcl _ (List.getElem_mem hk2)).1
      have hln := leastN_nn (List.getElem_mem hk2)
      refine w_region ?_
      refine w_pure want_none (y_assign (v := _) rfl rfl) rfl ?_
      refine w_nil ?_
      refine q_then (hK38 _ _ ?_)
      refine w_seq (fun K41 hK40 => ?_)
      refine w_cut [9, 23, 24, 25, 26, 27, 28, 29, 30, 31, 32, 33] [9] (fun vs w => vs = [.int .i64 (leastN ((choices below i)[k]'hk2))] ∧ St w0 w (NB ++ (E1 ++ (OB ++ (E ++ F))))) (fun K43 hC42 => ?_) ?_
      ·
       refine w_seq (fun K45 hK44 => ?_)
       refine w_region ?_
       refine w_pure want_none (y_move (v := .int _ _) rfl rfl) rfl ?_
       refine w_pure want_none (y_gtr rfl rfl rfl rfl) rfl ?_
       refine w_nil ?_
       refine q_then (hK44 _ _ ?_)
       refine w_cond rfl rfl (fun h46 => ?_) (fun h46 => ?_)
       ·
        try simp only [Bool.not_eq_true', Bool.not_eq_false', decide_eq_true_eq, decide_eq_false_iff_not, Int.not_lt, Int.not_le] at h46
        obtain ⟨by_, oy, hb2, hy⟩ := sl_ints (i := i - 1) hsx0 (by omega)
        subst hb2
        have hyb := (hcl _ (List.getElem_mem hk2)).2 _ (List.getElem_mem (show i - 1 < ((choices below i)[k]'hk2).length by omega))
        refine w_region ?_
        refine w_pure want_none (y_move (v := .slice _ _ _) rfl rfl) rfl ?_
        refine w_pure want_none (y_move (v := .int _ _) rfl rfl) rfl ?_
        refine w_pure want_none (y_indexS Try.underlying100 Try.sizeOf30 rfl rfl rfl rfl (i := _) rfl (by omega)) rfl ?_
        refine w_pure want_none (y_load1 Try.isAgg30 hs.drop.drop rfl rfl hx) rfl ?_
        refine w_pure want_none (y_move (v := .int _ _) rfl rfl) rfl ?_
        refine w_pure want_none (y_sub rfl rfl rfl rfl (by omega) (by omega)) rfl ?_
        refine w_pure want_none (y_indexS Try.underlying30 Try.sizeOf3 rfl rfl rfl rfl (i := i - 1) (by omega) (by omega)) rfl ?_
        refine w_pure want_none (y_load1 Try.isAgg3 hs.drop.drop rfl rfl hy) rfl ?_
        refine w_pure want_none (y_add rfl rfl rfl rfl (by omega) (by omega)) rfl ?_
        refine w_pure want_none (y_assign (v := .int _ _) rfl rfl) rfl ?_
        refine w_nil ?_
        refine q_then (hC42 _ _ (Md.intro (by repeat (first | exact agree_refl | exact agree_mix | refine agree_upd rfl ?_ | refine agree_updL rfl ?_ _ | refine agree_mixin rfl ?_)) ?_))
        first
          | exact ⟨by rw [leastN_at hxl (by omega)]; rfl, hs⟩
          | exact ⟨by have hi0 : i = 0 := (by omega); have : leastN ((choices below i)[k]'hk2) = 0 := (by unfold leastN; rw [List.getLast?_eq_none_iff.2 (List.eq_nil_of_length_eq_zero (by omega))]); rw [this]; rfl, hs⟩
       ·
        try simp only [Bool.not_eq_true', Bool.not_eq_false', decide_eq_true_eq, decide_eq_false_iff_not, Int.not_lt, Int.not_le] at h46
        refine w_skip ?_
        refine q_then (hC42 _ _ (Md.intro (by repeat (first | exact agree_refl | exact agree_mix | refine agree_upd rfl ?_ | refine agree_updL rfl ?_ _ | refine agree_mixin rfl ?_)) ?_))
        first
          | exact ⟨by rw [leastN_at hxl (by omega)]; rfl, hs⟩
          | exact ⟨by have hi0 : i = 0 := (by omega); have : leastN ((choices below i)[k]'hk2) = 0 := (by unfold leastN; rw [List.getLast?_eq_none_iff.2 (List.eq_nil_of_length_eq_zero (by omega))]); rw [this]; rfl, hs⟩
      ·
       intro vs μ w47 hM
       obtain ⟨rfl, hs⟩ := hM
       refine q_then (hK40 _ _ ?_)
       refine w_seq (fun K49 hK48 => ?_)
       refine w_region ?_
       refine w_pure want_none (y_move (v := .int _ _) rfl rfl) rfl ?_
       refine w_pure want_none (y_assign (v := .int _ _) rfl rfl) rfl ?_
       refine w_nil ?_
       refine q_then (hK48 _ _ ?_)
       refine w_block ?_
       refine w_loop [7, 10, 35, 36, 37, 38, 39, 40, 41, 42, 43, 44, 45, 46, 47, 48, 49, 50, 51] [7, 10] (fun kk vs0 w => ∃ (n : Nat) (vN : Value) (NB E1 : List (Nat × Obj)) (ws : List Value), vs0 = [vN, .int .i64 n] ∧ n ≤ below ∧ leastN ((choices below i)[k]'hk2) ≤ n ∧ kk = below - n ∧ Rt.Own vN 30 1 (chTo below i k ++ nextTo ((choices below i)[k]'hk2) n).length ws NB ∧ EL w0 E1 ws (chTo below i k ++ nextTo ((choices below i)[k]'hk2) n) ∧ St w0 w (NB ++ (E1 ++ (OB ++ (E ++ F))))) (below - (leastN ((choices below i)[k]'hk2)).toNat) ?_ ?_
       ·
        have hn0 : nextTo ((choices below i)[k]'hk2) (leastN ((choices below i)[k]'hk2)).toNat = [] := nextTo_none (by omega)
        exact ⟨(leastN ((choices below i)[k]'hk2)).toNat, vN, NB, E1, ws, by rw [Int.toNat_of_nonneg hln.1]; rfl, by omega, by omega, by omega, by rw [hn0, List.append_nil]; exact hown1, by rw [hn0, List.append_nil]; exact hel1, hs⟩
       ·
        intro k vs μ w52 hI K51 hN50
        obtain ⟨n, vN, NB, E1, ws, rfl, hqa, hqb, rfl, hown2, hel2, hs⟩ := hI
        refine w_seq (fun K54 hK53 => ?_)
        refine w_seq (fun K56 hK55 => ?_)
        refine w_region ?_
        refine w_pure want_none (y_move (v := .int _ _) rfl rfl) rfl ?_
        refine w_pure want_none (y_move (v := .int _ _) rfl rfl) rfl ?_
        refine w_pure want_none (y_lss rfl rfl rfl rfl) rfl ?_
        refine w_nil ?_
        refine q_then (hK55 _ _ ?_)
        refine w_cond rfl rfl (fun h57 => ?_) (fun h57 => ?_)
        ·
         try simp only [Bool.not_eq_true', Bool.not_eq_false', decide_eq_true_eq, decide_eq_false_iff_not, Int.not_lt, Int.not_le] at h57
         refine w_skip ?_
         refine q_then (hK53 _ _ ?_)
         refine w_seq (fun K59 hK58 => ?_)
         refine w_block ?_
         have hq2 : n < below := by omega
         have hnl := nextTo_len ((choices below i)[k]'hk2) n
         have hgl : (chTo below i k).length ≤ 285311670611 := by
           have h1 := flat_le (m := below) ((choices below i).take k) (f := fun x => nextTo x below) fun x _ => nextTo_len x below
           have h2 := choices_max (below := below) (i := i + 1) hb12 (by omega)
           have h3 := List.take_append_drop k (choices below i)
           have h4 : (choices below (i + 1)).length = (chTo below i k).length + (((choices below i).drop k).flatMap fun x => nextTo x below).length := by
             rw [← List.length_append]; unfold chTo; rw [← List.flatMap_append, h3]; rfl
           omega
         refine w_region ?_
         refine w_pure want_none (y_move (v := vN) rfl rfl) rfl ?_
         refine w_bslice (ps := []) (pv := []) (cs := []) want_none rfl rfl (fun w => Try_V_fb5  w) hs (fun b60 w61 hs62 => ?_)
         refine w_pure want_none (y_move (v := .slice _ _ _) rfl rfl) rfl ?_
         refine w_pure want_none (y_move (v := .int _ _) rfl rfl) rfl ?_
         refine w_pure want_none (y_indexS Try.underlying100 Try.sizeOf30 rfl rfl rfl rfl (i := _) rfl (by omega)) rfl ?_
         refine w_pure want_none (y_load1 Try.isAgg30 hs62.tail.drop.drop rfl rfl hx) rfl ?_
         refine w_append (X := ([])) (B := [_]) (rows := (((choices below i)[k]'hk2).map fun x => [Value.int .i64 x])) (sz := 1) (bytes := 8) want_none Try.underlying30 Try_info3 rfl rfl rfl rfl rfl rfl rfl rfl rfl hs62 own_made hsx0.app.app.cons (by simp) hnx (ints_one _) (by simp only [maxLen]; omega) (by omega) (fun v63 w64 B65 ho66 hs67 => ?_)
         replace hs67 := (show St _ _ (B65 ++ (NB ++ (E1 ++ (OB ++ (E ++ (F)))))) from hs67)
         refine w_pure want_none (y_move (v := .int _ _) rfl rfl) rfl ?_
         refine w_bslice (ps := [(0, _)]) (pv := [(0, .int _ _)]) (cs := [_]) want_none rfl rfl (fun w => Try_V_fb6 _ w) hs67 (fun b68 w69 hs70 => ?_)
         refine w_append (X := (_ :: [])) (B := B65) (rows := [[_]]) (sz := 1) (bytes := 8) want_none Try.underlying30 Try_info3 rfl rfl rfl rfl rfl rfl rfl rfl rfl hs70 ho66 (sl_own (i := 0) rfl (by simp) rfl) rfl (by simp) (by simp [Value.oneCell']) (by simp only [maxLen]; omega) (by omega) (fun v71 w72 B73 ho74 hs75 => ?_)
         replace hs75 := (show St _ _ (_ :: B73 ++ (NB ++ (E1 ++ (OB ++ (E ++ (F)))))) from hs75)
         obtain ⟨a3, c3, rfl, hsl3, hn3, _⟩ := own_ints (w0 := w0) (own_ints1 ho74)
         refine w_bslice (ps := [(0, _)]) (pv := [(0, .slice _ _ _)]) (cs := [_]) want_none rfl rfl (fun w => Try_V_fb4 _ _ _ w) hs75 (fun b76 w77 hs78 => ?_)
         refine w_append (X := (_ :: _ :: B73)) (B := NB) (rows := [[_]]) (sz := 1) (bytes := 24) want_none Try.underlying100 Try_info30 rfl rfl rfl rfl rfl rfl rfl rfl rfl hs78 hown2 (sl_own (i := 0) rfl (by simp) rfl) rfl (by simp) (by simp [Value.oneCell']) (by simp only [maxLen, List.length_append]; omega) (by simp only [List.length_append]; omega) (fun v79 w80 B81 ho82 hs83 => ?_)
         replace hs83 := (show St _ _ (_ :: _ :: B73 ++ (B81 ++ (E1 ++ (OB ++ (E ++ (F)))))) from hs83)
         refine w_pure want_none (y_assign (v := v79) rfl rfl) rfl ?_
         refine w_nil ?_
         refine q_blk_normal ?_
         refine q_then (hK58 _ _ ?_)
         refine w_region ?_
         refine w_pure want_none (y_move (v := .int _ _) rfl rfl) rfl ?_
         refine w_pure want_none (y_add rfl rfl rfl rfl (by omega) (by omega)) rfl ?_
         refine w_pure want_none (y_assign (v := .int _ _) rfl rfl) rfl ?_
         refine w_nil ?_
         refine q_then (hN50 _ _ (Nx.intro (below - (n + 1)) (by omega) (by repeat (first | exact agree_mix | refine agree_upd rfl ?_ | refine agree_updL rfl ?_ _ | refine agree_mixin rfl ?_)) ?_))
         exact ⟨n + 1, _, _, B73 ++ E1, _, rfl, by omega, by omega, rfl, by rw [nextTo_succ hqb, ← List.append_assoc]; exact own_el ho82, by rw [nextTo_succ hqb, ← List.append_assoc]; exact el_more hel2 hsl3 hn3, el_perm hs83⟩
        ·
         try simp only [Bool.not_eq_true', Bool.not_eq_false', decide_eq_true_eq, decide_eq_false_iff_not, Int.not_lt, Int.not_le] at h57
         refine w_exit ?_
         refine q_then_exit ?_
         refine q_then_exit ?_
         refine q_blk_this ?_
         refine q_blk_normal ?_
         refine q_then (hK36 _ _ ?_)
         refine w_region ?_
         refine w_pure want_none (y_move (v := .int _ _) rfl rfl) rfl ?_
         refine w_pure want_none (y_add rfl rfl rfl rfl (by omega) (by omega)) rfl ?_
         refine w_pure want_none (y_assign (v := .int _ _) rfl rfl) rfl ?_
         refine w_nil ?_
         refine q_then (hN28 _ _ (Nx.intro ((choices below i).length - (k + 1)) (by omega) (by repeat (first | exact agree_mix | refine agree_upd rfl ?_ | refine agree_updL rfl ?_ _ | refine agree_mixin rfl ?_)) ?_))
         have hqb : n = below := by omega
         subst hqb
         exact ⟨k + 1, vN, NB, E1, ws, rfl, by omega, by omega, by rw [chTo_succ hk2]; exact hown2, by rw [chTo_succ hk2]; exact hel2, hs⟩
     ·
      try simp only [Bool.not_eq_true', Bool.not_eq_false', decide_eq_true_eq, decide_eq_false_iff_not, Int.not_lt, Int.not_le] at h35
      refine w_exit ?_
      refine q_then_exit ?_
      refine q_then_exit ?_
      refine q_blk_this ?_
      refine q_then (hK24 _ _ ?_)
      refine w_region ?_
      refine w_pure want_none (y_move (v := vN) rfl rfl) rfl ?_
      refine w_pure want_none (y_assign (v := vN) rfl rfl) rfl ?_
      refine w_nil ?_
      refine q_blk_normal ?_
      refine q_then (hK20 _ _ ?_)
      refine w_region ?_
      refine w_pure want_none (y_move (v := .int _ _) rfl rfl) rfl ?_
      refine w_pure want_none (y_add rfl rfl rfl rfl (by omega) (by omega)) rfl ?_
      refine w_pure want_none (y_assign (v := .int _ _) rfl rfl) rfl ?_
      refine w_nil ?_
      refine q_then (hN12 _ _ (Nx.intro (many - (i + 1)) (by omega) (by repeat (first | exact agree_mix | refine agree_upd rfl ?_ | refine agree_updL rfl ?_ _ | refine agree_mixin rfl ?_)) ?_))
      rw [chTo_all (by omega)] at hown1 hel1
      exact ⟨i + 1, vN, NB, E1, ws, rfl, by omega, rfl, hown1, hel1, (hs.perm (el_drop2 NB E1 OB E F)).drop⟩
   ·
    try simp only [Bool.not_eq_true', Bool.not_eq_false', decide_eq_true_eq, decide_eq_false_iff_not, Int.not_lt, Int.not_le] at h19
    refine w_exit ?_
    refine q_then_exit ?_
    refine q_then_exit ?_
    refine q_blk_this ?_
    refine q_then (hK8 _ _ ?_)
    refine w_seq (fun K85 hK84 => ?_)
    refine w_region ?_
    refine w_pure want_none (y_move (v := vO) rfl rfl) rfl ?_
    refine w_pure want_none (y_assign (v := vO) rfl rfl) rfl ?_
    refine w_nil ?_
    refine q_then (hK84 _ _ ?_)
    refine w_ret ?_
    refine q_ret (l := [.tmp 4]) (vs := [_]) rfl ⟨⟨rfl, show _ = (vO : Value) from rfl⟩, trivial⟩ ?_
    have hin : i = many := by omega
    subst hin
    obtain ⟨aO, cO, rfl, hslO⟩ := own_sl_id (w0 := w0) hown0 hel.1 E
    exact ⟨OB ++ E, vs, aO, cO, rfl, hslO, hel.app, by rw [List.append_assoc]; exact hs⟩

end Go.Proofs
/- Walks of this seat, printed by gen.py over the engine: what each function returns, in whatever world. No conditions but those of each contract. -/
set_option linter.unusedVariables false
set_option linter.unusedSimpArgs false
set_option maxRecDepth 20000
namespace Go.Proofs
open Go.Rt Go.Rt.Sh
attribute [local irreducible] WL WC Con Yd At Ats Sl Agree DW
theorem Try_Ze_fb6 (x0 : Int) (w : World) : (Instr.buildSlice 30 1 [(0, .int .i64 x0)].toArray).run Try.prog w = .ok (.slice (some ⟨w.heap.size, 0, none⟩) 1 1) (w.alloc (Go.Rt.blk 3 [.int .i64 x0])) := by kernel_rfl
theorem Try_Ze_fb7  (w : World) : (Instr.buildSlice 30 0 [].toArray).run Try.prog w = .ok (.slice (some ⟨w.heap.size, 0, none⟩) 0 0) (w.alloc (Go.Rt.blk 3 [])) := by kernel_rfl
theorem own_set {n b cap r : Nat} {cs : List Value} {l : List Int} {z : Value} {x : Int} (hl : l.length = n) (h1 : n ≤ cap) (h2 : cap ≤ maxLen) (h3 : cs.length = cap * 1) (h5 : (cs.set r z).take (n * 1) = iv (subAt l r x)) : Rt.Own (.slice (some ⟨b, 0, none⟩) n cap) 3 1 n (iv (subAt l r x)) [(b, blk 3 (cs.set r z))] :=
  ⟨by simp [iv, subAt_len, hl], .inr ⟨b, cap, _, rfl, rfl, h1, h2, by rw [List.length_set]; exact h3, h5⟩⟩
theorem keep_mid {w0 w : World} {F : List (Nat × Obj)} {a b : Nat × Obj} (h : St w0 w (a :: b :: F)) : St w0 w ([a] ++ F) := (h.perm (perm_mid [a] [b] F)).tail
theorem sl_u8 {w0 : World} {F : List (Nat × Obj)} {a : Option Addr} {l : List Int} {i : Nat} (h : Sl w0 F a 1 (l.map fun x => [Value.int .u8 x])) (hi : i < l.length) :
    ∃ b off, a = some ⟨b, off, none⟩ ∧ Ats w0 F b (off + i * 1) [.int .u8 l[i]] := by
  obtain ⟨b, off, ha, _, hat⟩ := h.at (i := i) (row := [.int .u8 l[i]]) (by simp [hi])
  exact ⟨b, off, ha, hat⟩
theorem c79 {w0 w : World} {F : List (Nat × Obj)} (ax : Option Addr) (cx : Nat) (x : List Int) (hxl : x.length ≤ 9223372036854775807) (hxs : Sl w0 F ax 1 (x.map fun n => [Value.int .u8 n])) (hxr : ∀ z ∈ x, 0 ≤ z ∧ z ≤ 255) (n : Nat) (hs : St w0 w F) : Con Try.prog 79 [.slice ax x.length cx, .int .i64 (n : Int)] w fun v w' => v = .int .i64 (turnOf x n) ∧ St w0 w' F := by
  refine con_of_wc (n := 16) Try.func79 rfl rfl (Nat.le_of_ble_eq_true rfl) ?_
  refine w_seq (fun K2 hK1 => ?_)
  refine w_region ?_
  refine w_pure want_none (y_assign (v := _) rfl rfl) rfl ?_
  refine w_nil ?_
  refine q_then (hK1 _ _ ?_)
  refine w_seq (fun K4 hK3 => ?_)
  refine w_seq (fun K6 hK5 => ?_)
  refine w_region ?_
  refine w_pure want_none (y_move (v := .slice _ _ _) rfl rfl) rfl ?_
  refine w_pure want_none (y_lenS Try.underlying45 rfl rfl) rfl ?_
  refine w_pure want_none (y_eql rfl rfl rfl rfl) rfl ?_
  refine w_nil ?_
  refine q_then (hK5 _ _ ?_)
  refine w_cond rfl rfl (fun h7 => ?_) (fun h7 => ?_)
  ·
   try simp only [Bool.not_eq_true', Bool.not_eq_false', decide_eq_true_eq, decide_eq_false_iff_not, Int.not_lt, Int.not_le] at h7
   refine w_seq (fun K9 hK8 => ?_)
   refine w_region ?_
   refine w_pure want_none (y_assign (v := _) rfl rfl) rfl ?_
   refine w_nil ?_
   refine q_then (hK8 _ _ ?_)
   refine w_ret ?_
   refine q_then_ret ?_
   refine q_ret (l := [.tmp 4]) (vs := [_]) rfl ⟨⟨rfl, show _ = (.int _ _ : Value) from rfl⟩, trivial⟩ ?_
   first
     | exact ⟨congrArg (Value.int .i64) (by unfold turnOf; rw [if_pos (by omega)]), hs⟩
     | exact ⟨congrArg (Value.int .i64) (turn_at hx0), hs⟩
  ·
   try simp only [Bool.not_eq_true', Bool.not_eq_false', decide_eq_true_eq, decide_eq_false_iff_not, Int.not_lt, Int.not_le] at h7
   refine w_skip ?_
   refine q_then (hK3 _ _ ?_)
   refine w_seq (fun K11 hK10 => ?_)
   have hx0 : 0 < x.length := by omega
   have hm := Nat.mod_lt n hx0
   obtain ⟨bx, ox, rfl, hx⟩ := sl_u8 hxs hm
   have hr := hxr _ (List.getElem_mem hm)
   refine w_region ?_
   refine w_pure want_none (y_move (v := .slice _ _ _) rfl rfl) rfl ?_
   refine w_pure want_none (y_move (v := .int _ _) rfl rfl) rfl ?_
   refine w_pure want_none (y_move (v := .slice _ _ _) rfl rfl) rfl ?_
   refine w_pure want_none (y_lenS Try.underlying45 rfl rfl) rfl ?_
   refine w_pure want_none (y_rem rfl rfl rfl rfl (by omega) (by omega)) rfl ?_
   refine w_pure want_none (y_indexS Try.underlying45 Try.sizeOf5 rfl rfl rfl rfl (i := n % x.length) (by simp) hm) rfl ?_
   refine w_pure want_none (y_load1 Try.isAgg5 hs rfl rfl hx) rfl ?_
   refine w_pure want_none (y_u8int (by rw [Try.underlying5]; rfl) Try.underlying3 rfl rfl (by omega) (by omega)) rfl ?_
   refine w_pure want_none (y_assign (v := .int _ _) rfl rfl) rfl ?_
   refine w_nil ?_
   refine q_then (hK10 _ _ ?_)
   refine w_ret ?_
   refine q_ret (l := [.tmp 4]) (vs := [_]) rfl ⟨⟨rfl, show _ = (.int _ _ : Value) from rfl⟩, trivial⟩ ?_
   first
     | exact ⟨congrArg (Value.int .i64) (by unfold turnOf; rw [if_pos (by omega)]), hs⟩
     | exact ⟨congrArg (Value.int .i64) (turn_at hx0), hs⟩

theorem c46 {w0 w : World} {F : List (Nat × Obj)} (b n : Nat) (hb : b ≤ 9223372036854775807) (hn : n ≤ 9223372036854775807) (hs : St w0 w F) : Con Try.prog 46 [.int .i64 (b : Int), .int .i64 (n : Int)] w fun v w' => v = .bool (decide ((((b >>> n : Nat) : Int)) % 2 = 1)) ∧ St w0 w' F := by
  refine con_of_wc (n := 16) Try.func46 rfl rfl (Nat.le_of_ble_eq_true rfl) ?_
  refine w_seq (fun K2 hK1 => ?_)
  refine w_region ?_
  refine w_pure want_none (y_assign (v := _) rfl rfl) rfl ?_
  refine w_nil ?_
  refine q_then (hK1 _ _ ?_)
  refine w_seq (fun K4 hK3 => ?_)
  refine w_seq (fun K6 hK5 => ?_)
  refine w_region ?_
  refine w_pure want_none (y_assign (v := _) rfl rfl) rfl ?_
  refine w_nil ?_
  refine q_then (hK5 _ _ ?_)
  refine w_block ?_
  refine w_loop [0, 5, 6, 7, 8, 9, 10, 11, 12] [0, 5] (fun k vs w => ∃ i : Nat, vs = [.int .i64 ((b >>> i : Nat) : Int), .int .i64 i] ∧ i ≤ n ∧ k = n - i ∧ St w0 w F) (n) ?_ ?_
  ·
   exact ⟨0, rfl, by omega, by omega, hs⟩
  ·
   intro k vs μ w9 hI K8 hN7
   obtain ⟨i, rfl, hia, rfl, hs⟩ := hI
   have hsl := shr_le b i
   have hsl0 : (0 : Int) ≤ ((b >>> i : Nat) : Int) := Int.natCast_nonneg _
   refine w_seq (fun K11 hK10 => ?_)
   refine w_seq (fun K13 hK12 => ?_)
   refine w_region ?_
   refine w_pure want_none (y_move (v := .int _ _) rfl rfl) rfl ?_
   refine w_pure want_none (y_move (v := .int _ _) rfl rfl) rfl ?_
   refine w_pure want_none (y_lss rfl rfl rfl rfl) rfl ?_
   refine w_nil ?_
   refine q_then (hK12 _ _ ?_)
   refine w_cond rfl rfl (fun h14 => ?_) (fun h14 => ?_)
   ·
    try simp only [Bool.not_eq_true', Bool.not_eq_false', decide_eq_true_eq, decide_eq_false_iff_not, Int.not_lt, Int.not_le] at h14
    refine w_skip ?_
    refine q_then (hK10 _ _ ?_)
    refine w_seq (fun K16 hK15 => ?_)
    refine w_block ?_
    refine w_region ?_
    refine w_pure want_none (y_move (v := .int _ _) rfl rfl) rfl ?_
    refine w_pure want_none (y_quo rfl rfl rfl rfl (by omega) (by omega) (by omega)) rfl ?_
    refine w_pure want_none (y_assign (v := .int _ _) rfl rfl) rfl ?_
    refine w_nil ?_
    refine q_blk_normal ?_
    refine q_then (hK15 _ _ ?_)
    refine w_region ?_
    refine w_pure want_none (y_move (v := .int _ _) rfl rfl) rfl ?_
    refine w_pure want_none (y_add rfl rfl rfl rfl (by omega) (by omega)) rfl ?_
    refine w_pure want_none (y_assign (v := .int _ _) rfl rfl) rfl ?_
    refine w_nil ?_
    refine q_then (hN7 _ _ (Nx.intro (n - (i + 1)) (by omega) (by repeat (first | exact agree_mix | refine agree_upd rfl ?_ | refine agree_updL rfl ?_ _ | refine agree_mixin rfl ?_)) ?_))
    exact ⟨i + 1, by rw [← shr_half]; rfl, by omega, rfl, hs⟩
   ·
    try simp only [Bool.not_eq_true', Bool.not_eq_false', decide_eq_true_eq, decide_eq_false_iff_not, Int.not_lt, Int.not_le] at h14
    refine w_exit ?_
    refine q_then_exit ?_
    refine q_then_exit ?_
    refine q_blk_this ?_
    refine q_then (hK3 _ _ ?_)
    refine w_seq (fun K18 hK17 => ?_)
    refine w_region ?_
    refine w_pure want_none (y_move (v := .int _ _) rfl rfl) rfl ?_
    refine w_pure want_none (y_rem rfl rfl rfl rfl (by omega) (by omega)) rfl ?_
    refine w_pure want_none (y_eql rfl rfl rfl rfl) rfl ?_
    refine w_pure want_none (y_assign (v := .bool _) rfl rfl) rfl ?_
    refine w_nil ?_
    refine q_then (hK17 _ _ ?_)
    refine w_ret ?_
    refine q_ret (l := [.tmp 4]) (vs := [_]) rfl ⟨⟨rfl, show _ = (.bool _ : Value) from rfl⟩, trivial⟩ ?_
    have hin : i = n := by omega
    subst hin
    exact ⟨rfl, hs⟩

theorem c45 {w0 w : World} {F : List (Nat × Obj)} (aa ab : Option Addr) (a b : List Int) (ca cb : Nat) (hla : a.length ≤ 9223372036854775807) (ha : Sl w0 F aa 1 (a.map fun x => [Value.int .i64 x])) (hb : Sl w0 F ab 1 (b.map fun x => [Value.int .i64 x])) (hs : St w0 w F) : Con Try.prog 45 [.slice aa a.length ca, .slice ab b.length cb] w fun v w' => v = .bool (if a.length = b.length then less a b else decide (a.length < b.length)) ∧ St w0 w' F := by
  refine con_of_wc (n := 18) Try.func45 rfl rfl (Nat.le_of_ble_eq_true rfl) ?_
  refine w_seq (fun K2 hK1 => ?_)
  refine w_region ?_
  refine w_pure want_none (y_assign (v := _) rfl rfl) rfl ?_
  refine w_nil ?_
  refine q_then (hK1 _ _ ?_)
  refine w_seq (fun K4 hK3 => ?_)
  refine w_seq (fun K6 hK5 => ?_)
  refine w_region ?_
  refine w_pure want_none (y_move (v := .slice _ _ _) rfl rfl) rfl ?_
  refine w_pure want_none (y_lenS Try.underlying30 rfl rfl) rfl ?_
  refine w_pure want_none (y_move (v := .slice _ _ _) rfl rfl) rfl ?_
  refine w_pure want_none (y_lenS Try.underlying30 rfl rfl) rfl ?_
  refine w_pure want_none (y_neq rfl rfl rfl rfl) rfl ?_
  refine w_nil ?_
  refine q_then (hK5 _ _ ?_)
  refine w_cond rfl rfl (fun h7 => ?_) (fun h7 => ?_)
  ·
   try simp only [Bool.not_eq_true', Bool.not_eq_false', decide_eq_true_eq, decide_eq_false_iff_not, Int.not_lt, Int.not_le] at h7
   refine w_seq (fun K9 hK8 => ?_)
   refine w_region ?_
   refine w_pure want_none (y_move (v := .slice _ _ _) rfl rfl) rfl ?_
   refine w_pure want_none (y_lenS Try.underlying30 rfl rfl) rfl ?_
   refine w_pure want_none (y_move (v := .slice _ _ _) rfl rfl) rfl ?_
   refine w_pure want_none (y_lenS Try.underlying30 rfl rfl) rfl ?_
   refine w_pure want_none (y_lss rfl rfl rfl rfl) rfl ?_
   refine w_pure want_none (y_assign (v := .bool _) rfl rfl) rfl ?_
   refine w_nil ?_
   refine q_then (hK8 _ _ ?_)
   refine w_ret ?_
   refine q_then_ret ?_
   refine q_ret (l := [.tmp 4]) (vs := [_]) rfl ⟨⟨rfl, show _ = (.bool _ : Value) from rfl⟩, trivial⟩ ?_
   first
     | exact ⟨congrArg Value.bool (by rw [if_neg (by omega)]; rw [Bool.eq_iff_iff]; simp), hs⟩
     | exact ⟨congrArg Value.bool (by rw [if_pos (by omega)]), hs⟩
  ·
   try simp only [Bool.not_eq_true', Bool.not_eq_false', decide_eq_true_eq, decide_eq_false_iff_not, Int.not_lt, Int.not_le] at h7
   refine w_skip ?_
   refine q_then (hK3 _ _ ?_)
   refine w_seq (fun K11 hK10 => ?_)
   refine w_region ?_
   refine w_pure want_none (y_move (v := .slice _ _ _) rfl rfl) rfl ?_
   refine w_pure want_none (y_move (v := .slice _ _ _) rfl rfl) rfl ?_
   refine w_call want_none Try.call42 rfl rfl rfl rfl (c42 _ _ _ _ _ _ (by omega) (by assumption) (by assumption) hs) ?_
   rintro _ w13 ⟨rfl, hs14⟩
   refine w_pure want_none (y_assign (v := .bool _) rfl rfl) rfl ?_
   refine w_nil ?_
   refine q_then (hK10 _ _ ?_)
   refine w_ret ?_
   refine q_ret (l := [.tmp 4]) (vs := [_]) rfl ⟨⟨rfl, show _ = (.bool _ : Value) from rfl⟩, trivial⟩ ?_
   first
     | exact ⟨congrArg Value.bool (by rw [if_neg (by omega)]; rw [Bool.eq_iff_iff]; simp), hs14⟩
     | exact ⟨congrArg Value.bool (by rw [if_pos (by omega)]), hs14⟩

theorem c35 {w0 w : World} {F : List (Nat × Obj)} (m : Market) (p : At3) (hm : MIn w0 F m p)  (hs : St w0 w F) :
  Con Try.prog 35 [.agg (m.cells p).toArray] w fun v w' => v = .bool (decide ((check m).2.2 = 0)) ∧ St w0 w' F := by
  refine con_of_wc (n := 14) Try.func35 rfl rfl (Nat.le_of_ble_eq_true rfl) ?_
  refine w_seq (fun K2 hK1 => ?_)
  refine w_region ?_
  refine w_box (v := .agg #[.slice _ _ _, .slice _ _ _, .slice _ _ _]) (cs := [_, _, _]) want_none rfl rfl rfl hs (fun b3 w4 hs5 => ?_)
  refine w_pure want_none (y_assign (v := _) rfl rfl) rfl ?_
  refine w_nil ?_
  refine q_then (hK1 _ _ ?_)
  refine w_seq (fun K7 hK6 => ?_)
  refine w_region ?_
  refine w_pure want_none (y_loadN (vs := [_, _, _]) Try.isAgg26 Try.sizeOf26 hs5 rfl rfl (ats_own (i := 0) (vs := [_, _, _]) rfl rfl)) rfl ?_
  refine w_call want_none Try.call17 rfl rfl rfl rfl (c17 m _ hm.cons hs5) ?_
  rintro _ w9 ⟨rfl, hs10⟩
  refine w_pure want_none (y_move (v := .tuple _) rfl rfl) rfl ?_
  refine w_pure want_none (y_extract (v := .int _ _) rfl rfl rfl) rfl ?_
  refine w_pure want_none (y_extract (v := .int _ _) rfl rfl rfl) rfl ?_
  refine w_pure want_none (y_extract (v := .int _ _) rfl rfl rfl) rfl ?_
  refine w_pure want_none (y_assign (v := .int _ _) rfl rfl) rfl ?_
  refine w_pure want_none (y_assign (v := .int _ _) rfl rfl) rfl ?_
  refine w_pure want_none (y_assign (v := .int _ _) rfl rfl) rfl ?_
  refine w_nil ?_
  refine q_then (hK6 _ _ ?_)
  refine w_seq (fun K12 hK11 => ?_)
  refine w_region ?_
  refine w_pure want_none (y_move (v := .int _ _) rfl rfl) rfl ?_
  refine w_pure want_none (y_eql rfl rfl rfl rfl) rfl ?_
  refine w_pure want_none (y_assign (v := .bool _) rfl rfl) rfl ?_
  refine w_nil ?_
  refine q_then (hK11 _ _ ?_)
  refine w_ret ?_
  refine q_ret (l := [.tmp 2]) (vs := [_]) rfl ⟨⟨rfl, show _ = (.bool _ : Value) from rfl⟩, trivial⟩ ?_
  exact ⟨rfl, hs10.tail⟩

theorem c43 {w0 w : World} {F : List (Nat × Obj)} (m : Market) (p : At3) (hm : MIn w0 F m p) (hok : m.Ok) (b : Nat) (hb : b ≤ 9223372036854775807) (hs : St w0 w F) :
  Con Try.prog 43 [.agg (m.cells p).toArray, .int .i64 (b : Int)] w fun v w' => ∃ B a c, v = .slice a (listL b m.shops.length).length c ∧ Sl w0 B a 1 ((listL b m.shops.length).map fun x => [Value.int .i64 x]) ∧ St w0 w' (B ++ F) := by
  refine con_of_wc (n := 22) Try.func43 rfl rfl (Nat.le_of_ble_eq_true rfl) ?_
  have hls := hok.ls
  refine w_seq (fun K2 hK1 => ?_)
  refine w_region ?_
  refine w_box (v := .agg #[.slice _ _ _, .slice _ _ _, .slice _ _ _]) (cs := [_, _, _]) want_none rfl rfl rfl hs (fun b3 w4 hs5 => ?_)
  refine w_pure want_none (y_assign (v := _) rfl rfl) rfl ?_
  refine w_nil ?_
  refine q_then (hK1 _ _ ?_)
  refine w_seq (fun K7 hK6 => ?_)
  have hbx : Ats w0 ((b3, blk 26 (m.cells p)) :: F) b3 0 (m.cells p) := ats_own (i := 0) (vs := m.cells p) rfl rfl
  refine w_region ?_
  refine w_pure want_none (y_assign (v := _) rfl rfl) rfl ?_
  refine w_nil ?_
  refine q_then (hK6 _ _ ?_)
  refine w_seq (fun K9 hK8 => ?_)
  refine w_seq (fun K11 hK10 => ?_)
  refine w_region ?_
  refine w_pure want_none (y_assign (v := _) rfl rfl) rfl ?_
  refine w_nil ?_
  refine q_then (hK10 _ _ ?_)
  refine w_block ?_
  refine w_loop [5, 6, 7, 8, 9, 10, 11, 12, 13, 14, 15, 16, 17, 18, 19, 20] [5, 6] (fun k vs w => ∃ (i : Nat) (v : Value) (B : List (Nat × Obj)), vs = [v, .int .i64 i] ∧ i ≤ m.shops.length ∧ k = m.shops.length - i ∧ Rt.Own v 3 1 (listL b i).length (iv (listL b i)) B ∧ St w0 w (B ++ ((b3, blk 26 (m.cells p)) :: F))) (m.shops.length) ?_ ?_
  ·
   exact ⟨0, _, [], rfl, by omega, by omega, own_nil 3 1, hs5⟩
  ·
   intro k vs μ w14 hI K13 hN12
   obtain ⟨i, v, B, rfl, hia, rfl, hown, hs⟩ := hI
   refine w_seq (fun K16 hK15 => ?_)
   refine w_seq (fun K18 hK17 => ?_)
   refine w_region ?_
   refine w_pure want_none (y_move (v := .int _ _) rfl rfl) rfl ?_
   refine w_pure want_none (y_fieldAddr (o := 1) (i := 1) Try.underlying26 rfl Try.sizeOf23 rfl rfl rfl) rfl ?_
   refine w_pure want_none (y_load1 Try.isAgg23 hs.drop rfl rfl (show Ats _ _ _ _ [_] from Ats.part hbx 1 1)) rfl ?_
   refine w_pure want_none (y_lenS Try.underlying23 rfl rfl) rfl ?_
   refine w_pure want_none (y_lss rfl rfl rfl rfl) rfl ?_
   refine w_nil ?_
   refine q_then (hK17 _ _ ?_)
   refine w_cond rfl rfl (fun h19 => ?_) (fun h19 => ?_)
   ·
    try simp only [Bool.not_eq_true', Bool.not_eq_false', decide_eq_true_eq, decide_eq_false_iff_not, Int.not_lt, Int.not_le] at h19
    refine w_skip ?_
    refine q_then (hK15 _ _ ?_)
    refine w_seq (fun K21 hK20 => ?_)
    refine w_block ?_
    refine w_seq (fun K23 hK22 => ?_)
    have hgl := listL_le b i
    refine w_region ?_
    refine w_pure want_none (y_move (v := .int _ _) rfl rfl) rfl ?_
    refine w_pure want_none (y_move (v := .int _ _) rfl rfl) rfl ?_
    refine w_call want_none Try.call46 rfl rfl rfl rfl (c46 b i hb (by omega) hs) ?_
    rintro _ w25 ⟨rfl, hs26⟩
    refine w_nil ?_
    refine q_then (hK22 _ _ ?_)
    refine w_cond rfl rfl (fun h27 => ?_) (fun h27 => ?_)
    ·
     try simp only [Bool.not_eq_true', Bool.not_eq_false', decide_eq_true_eq, decide_eq_false_iff_not, Int.not_lt, Int.not_le] at h27
     refine w_region ?_
     refine w_pure want_none (y_move (v := v) rfl rfl) rfl ?_
     refine w_pure want_none (y_move (v := .int _ _) rfl rfl) rfl ?_
     refine w_bslice (ps := [(0, _)]) (pv := [(0, .int _ _)]) (cs := [_]) want_none rfl rfl (fun w => Try_Ze_fb6 _ w) hs26 (fun b28 w29 hs30 => ?_)
     refine w_append (X := (_ :: [])) (B := B) (rows := [[_]]) (sz := 1) (bytes := 8) want_none Try.underlying30 Try_info3 rfl rfl rfl rfl rfl rfl rfl rfl rfl hs30 hown (sl_own (i := 0) rfl (by simp) rfl) rfl (by simp) (by simp [Value.oneCell']) (by simp only [maxLen]; omega) (by omega) (fun v31 w32 B33 ho34 hs35 => ?_)
     replace hs35 := (show St _ _ (_ :: B33 ++ (_ :: F)) from hs35)
     refine w_pure want_none (y_assign (v := v31) rfl rfl) rfl ?_
     refine w_nil ?_
     refine q_blk_normal ?_
     refine q_then (hK20 _ _ ?_)
     refine w_region ?_
     refine w_pure want_none (y_move (v := .int _ _) rfl rfl) rfl ?_
     refine w_pure want_none (y_add rfl rfl rfl rfl (by omega) (by omega)) rfl ?_
     refine w_pure want_none (y_assign (v := .int _ _) rfl rfl) rfl ?_
     refine w_nil ?_
     refine q_then (hN12 _ _ (Nx.intro (m.shops.length - (i + 1)) (by omega) (by repeat (first | exact agree_mix | refine agree_upd rfl ?_ | refine agree_updL rfl ?_ _ | refine agree_mixin rfl ?_)) ?_))
     exact ⟨i + 1, _, _, rfl, by omega, rfl, by rw [listL_yes ((bit_odd b i).1 (by assumption))]; exact own_snoc ho34, hs35.tail⟩
    ·
     try simp only [Bool.not_eq_true', Bool.not_eq_false', decide_eq_true_eq, decide_eq_false_iff_not, Int.not_lt, Int.not_le] at h27
     refine w_skip ?_
     refine q_blk_normal ?_
     refine q_then (hK20 _ _ ?_)
     refine w_region ?_
     refine w_pure want_none (y_move (v := .int _ _) rfl rfl) rfl ?_
     refine w_pure want_none (y_add rfl rfl rfl rfl (by omega) (by omega)) rfl ?_
     refine w_pure want_none (y_assign (v := .int _ _) rfl rfl) rfl ?_
     refine w_nil ?_
     refine q_then (hN12 _ _ (Nx.intro (m.shops.length - (i + 1)) (by omega) (by repeat (first | exact agree_mix | refine agree_upd rfl ?_ | refine agree_updL rfl ?_ _ | refine agree_mixin rfl ?_)) ?_))
     exact ⟨i + 1, v, B, rfl, by omega, rfl, by rw [listL_no (fun h => by have := (bit_odd b i).2 h; contradiction)]; exact hown, hs26⟩
   ·
    try simp only [Bool.not_eq_true', Bool.not_eq_false', decide_eq_true_eq, decide_eq_false_iff_not, Int.not_lt, Int.not_le] at h19
    refine w_exit ?_
    refine q_then_exit ?_
    refine q_then_exit ?_
    refine q_blk_this ?_
    refine q_then (hK8 _ _ ?_)
    refine w_seq (fun K37 hK36 => ?_)
    refine w_region ?_
    refine w_pure want_none (y_move (v := v) rfl rfl) rfl ?_
    refine w_pure want_none (y_assign (v := v) rfl rfl) rfl ?_
    refine w_nil ?_
    refine q_then (hK36 _ _ ?_)
    refine w_ret ?_
    refine q_ret (l := [.tmp 4]) (vs := [_]) rfl ⟨⟨rfl, show _ = (v : Value) from rfl⟩, trivial⟩ ?_
    have hil : i = m.shops.length := by omega
    subst hil
    obtain ⟨ag, cg, rfl, hsg, _, _⟩ := own_ints (w0 := w0) hown
    exact ⟨B ++ [_], ag, cg, rfl, hsg.top, by rw [List.append_assoc]; exact hs⟩

theorem c40 {w0 w : World} {F : List (Nat × Obj)} (m : Market) (p : At3) (hm : MIn w0 F m p) (hok : m.Ok) (al : Option Addr) (cl : Nat) (l : List Int) (hll : l.length ≤ 9223372036854775807) (hl : Sl w0 F al 1 (l.map fun x => [Value.int .i64 x])) (hlt2 : l.length ≤ m.trains.length) (hlb : ∀ z ∈ l, 0 ≤ z ∧ z ≤ 60) (hs : St w0 w F) :
  Con Try.prog 40 [.agg (m.cells p).toArray, .slice al l.length cl] w fun v w' => ∃ B a c, v = .slice a (gotTo m l l.length).length c ∧ Sl w0 B a 1 ((gotTo m l l.length).map fun x => [Value.int .i64 x]) ∧ St w0 w' (B ++ F) := by
  refine con_of_wc (n := 37) Try.func40 rfl rfl (Nat.le_of_ble_eq_true rfl) ?_
  have hls := hok.ls
  have hlt := hok.lt
  refine w_seq (fun K2 hK1 => ?_)
  refine w_region ?_
  refine w_box (v := .agg #[.slice _ _ _, .slice _ _ _, .slice _ _ _]) (cs := [_, _, _]) want_none rfl rfl rfl hs (fun b3 w4 hs5 => ?_)
  refine w_pure want_none (y_assign (v := _) rfl rfl) rfl ?_
  refine w_nil ?_
  refine q_then (hK1 _ _ ?_)
  refine w_seq (fun K7 hK6 => ?_)
  have hbx : Ats w0 ((b3, blk 26 (m.cells p)) :: F) b3 0 (m.cells p) := ats_own (i := 0) (vs := m.cells p) rfl rfl
  refine w_region ?_
  refine w_pure want_none (y_fieldAddr (o := 1) (i := 1) Try.underlying26 rfl Try.sizeOf23 rfl rfl rfl) rfl ?_
  refine w_pure want_none (y_load1 Try.isAgg23 hs5 rfl rfl (show Ats _ _ _ _ [_] from Ats.part hbx 1 1)) rfl ?_
  refine w_pure want_none (y_lenS Try.underlying23 rfl rfl) rfl ?_
  refine w_makeInts (k := m.shops.length) want_none Try.underlying30 Try_info3 rfl rfl (by omega) rfl rfl rfl rfl rfl hs5 (fun b8 w9 hs10 => ?_)
  refine w_pure want_none (y_assign (v := .slice _ _ _) rfl rfl) rfl ?_
  refine w_nil ?_
  refine q_then (hK6 _ _ ?_)
  refine w_seq (fun K12 hK11 => ?_)
  refine w_seq (fun K14 hK13 => ?_)
  refine w_region ?_
  refine w_pure want_none (y_assign (v := _) rfl rfl) rfl ?_
  refine w_nil ?_
  refine q_then (hK13 _ _ ?_)
  refine w_block ?_
  refine w_loop [6, 7, 12, 13, 14, 15, 16, 17, 18, 19, 20, 21, 22, 23, 24, 25, 26, 27, 28, 29, 30, 31, 32, 33, 34, 35] [6] (fun k vs w => ∃ i : Nat, vs = [.int .i64 i] ∧ i ≤ l.length ∧ k = l.length - i ∧ St w0 w ((b8, blk 3 (iv (gotTo m l i))) :: (b3, blk 26 (m.cells p)) :: F)) (l.length) ?_ ?_
  ·
   exact ⟨0, rfl, by omega, by omega, hs10⟩
  ·
   intro k vs μ w17 hI K16 hN15
   obtain ⟨i, rfl, hia, rfl, hs⟩ := hI
   refine w_seq (fun K19 hK18 => ?_)
   refine w_seq (fun K21 hK20 => ?_)
   refine w_region ?_
   refine w_pure want_none (y_move (v := .int _ _) rfl rfl) rfl ?_
   refine w_pure want_none (y_move (v := .slice _ _ _) rfl rfl) rfl ?_
   refine w_pure want_none (y_lenS Try.underlying30 rfl rfl) rfl ?_
   refine w_pure want_none (y_lss rfl rfl rfl rfl) rfl ?_
   refine w_nil ?_
   refine q_then (hK20 _ _ ?_)
   refine w_cond rfl rfl (fun h22 => ?_) (fun h22 => ?_)
   ·
    try simp only [Bool.not_eq_true', Bool.not_eq_false', decide_eq_true_eq, decide_eq_false_iff_not, Int.not_lt, Int.not_le] at h22
    refine w_skip ?_
    refine q_then (hK18 _ _ ?_)
    refine w_seq (fun K24 hK23 => ?_)
    refine w_block ?_
    refine w_seq (fun K26 hK25 => ?_)
    have hi1 : i < l.length := by omega
    have hi2 : i < m.trains.length := by omega
    obtain ⟨bt, ot, hbt, hxt⟩ := sl_trows hm.t hi2
    have htt := hok.train _ (List.getElem_mem hi2)
    have hgl := gotTo_len m l i
    have hs2 : (m.trains[i]'hi2).shop.toNat < (gotTo m l i).length := by omega
    have hg1 := gotTo_in (m := m) hlb i _ (List.getElem_mem hs2)
    have hl1 := hlb _ (List.getElem_mem hi1)
    obtain ⟨bx, ox, hbx2, hx⟩ := sl_ints (sl_own_ints (w0 := w0) (L := (b8, blk 3 (iv (gotTo m l i))) :: (b3, blk 26 (m.cells p)) :: F) (i := 0) rfl rfl (List.take_of_length_le (by simp))) hs2
    cases hbx2
    obtain ⟨by_, oy, hby2, hy⟩ := sl_ints hl hi1
    subst hby2
    refine w_region ?_
    refine w_pure want_none (y_fieldAddr (o := 2) (i := 2) Try.underlying26 rfl Try.sizeOf24 rfl rfl rfl) rfl ?_
    refine w_pure want_none (yd_slice hbt (y_load1 Try.isAgg24 hs.tail rfl rfl (show Ats _ _ _ _ [_] from Ats.part hbx 2 1))) rfl ?_
    refine w_pure want_none (y_move (v := .int _ _) rfl rfl) rfl ?_
    refine w_pure want_none (y_indexS Try.underlying24 Try.sizeOf63 rfl rfl rfl rfl (i := _) rfl (by omega)) rfl ?_
    refine w_pure want_none (y_fieldAddr (o := 1) (i := 1) Try.underlying63 rfl Try.sizeOf3 rfl rfl rfl) rfl ?_
    refine w_pure want_none (y_load1 Try.isAgg3 hs.tail.tail rfl rfl (show Ats _ _ _ _ [_] from Ats.part hxt 1 1)) rfl ?_
    refine w_pure want_none (y_assign (v := .int _ _) rfl rfl) rfl ?_
    refine w_nil ?_
    refine q_then (hK25 _ _ ?_)
    refine w_draw [12] [(0, 0), (1, 0), (2, 0), (3, 0), (4, 0), (5, 1), (6, 0), (7, 0), (8, 0), (9, 1), (10, 0), (11, 0), (12, 3)] Try_mo (by kernel_rfl) hs (fun w27 hs28 => ?_)
    refine d_any rfl want_none rfl (fun _ => (y_move (v := .slice _ _ _) rfl rfl)) ?_
    refine d_any rfl want_none rfl (fun _ => (y_move (v := .int _ _) rfl rfl)) ?_
    refine d_any rfl want_none rfl (fun _ => (y_move (v := .slice _ _ _) rfl rfl)) ?_
    refine d_any rfl want_none rfl (fun _ => (y_move (v := .int _ _) rfl rfl)) ?_
    refine d_any rfl want_none rfl (fun _ => (y_indexS Try.underlying30 Try.sizeOf3 rfl rfl rfl rfl (i := (m.trains[i]'hi2).shop.toNat) (by omega) (by omega))) ?_
    refine d_take rfl want_none rfl hs28 (fun _ hq => (y_load1 Try.isAgg3 hq rfl rfl hx)) ?_
    refine d_any rfl want_none rfl (fun _ => (y_move (v := .slice _ _ _) rfl rfl)) ?_
    refine d_any rfl want_none rfl (fun _ => (y_move (v := .int _ _) rfl rfl)) ?_
    refine d_any rfl want_none rfl (fun _ => (y_indexS Try.underlying30 Try.sizeOf3 rfl rfl rfl rfl (i := _) rfl (by omega))) ?_
    refine d_take rfl want_none rfl hs28 (fun _ hq => (y_load1 Try.isAgg3 hq.tail.tail rfl rfl hy)) ?_
    refine d_any rfl want_none rfl (fun _ => (y_add rfl rfl rfl rfl (by omega) (by omega))) ?_
    refine d_any rfl want_none rfl (fun _ => (y_indexS Try.underlying30 Try.sizeOf3 rfl rfl rfl rfl (i := (m.trains[i]'hi2).shop.toNat) (by omega) (by omega))) ?_
    refine d_late rfl ?_
    refine w_store (i := 0) (v := .int _ _) (vs := [_]) want_none Try.sizeOf3 rfl rfl rfl rfl rfl (by simp [Value.oneCell']) hs28 rfl (show 0 + (m.trains[i]'hi2).shop.toNat * 1 + 1 ≤ (iv (gotTo m l i)).length by simp [iv]; omega) (fun w29 hs30 => ?_)
    replace hs30 := (show St _ _ ((b8, blk 3 (iv ((gotTo m l i).set (m.trains[i]'hi2).shop.toNat ((gotTo m l i)[(m.trains[i]'hi2).shop.toNat]'hs2 + l[i]'hi1)))) :: _ :: F) from (by have h6 := hs30; simp only [setMany, Nat.zero_add, Nat.mul_one] at h6; exact (by rw [show iv ((gotTo m l i).set (m.trains[i]'hi2).shop.toNat ((gotTo m l i)[(m.trains[i]'hi2).shop.toNat]'hs2 + l[i]'hi1)) = (iv (gotTo m l i)).set (m.trains[i]'hi2).shop.toNat (.int .i64 ((gotTo m l i)[(m.trains[i]'hi2).shop.toNat]'hs2 + l[i]'hi1)) by simp [iv, List.map_set]]; exact h6)))
    refine w_nil ?_
    refine qn ?_
    refine d_nil ?_
    refine q_blk_normal ?_
    refine q_then (hK23 _ _ ?_)
    refine w_region ?_
    refine w_pure want_none (y_move (v := .int _ _) rfl rfl) rfl ?_
    refine w_pure want_none (y_add rfl rfl rfl rfl (by omega) (by omega)) rfl ?_
    refine w_pure want_none (y_assign (v := .int _ _) rfl rfl) rfl ?_
    refine w_nil ?_
    refine q_then (hN15 _ _ (Nx.intro (l.length - (i + 1)) (by omega) (by repeat (first | exact agree_mix | refine agree_upd rfl ?_ | refine agree_updL rfl ?_ _ | refine agree_mixin rfl ?_)) ?_))
    exact ⟨i + 1, rfl, by omega, rfl, by rw [← gotTo_succ hi2 hi1 hs2]; exact hs30⟩
   ·
    try simp only [Bool.not_eq_true', Bool.not_eq_false', decide_eq_true_eq, decide_eq_false_iff_not, Int.not_lt, Int.not_le] at h22
    refine w_exit ?_
    refine q_then_exit ?_
    refine q_then_exit ?_
    refine q_blk_this ?_
    refine q_then (hK11 _ _ ?_)
    refine w_seq (fun K32 hK31 => ?_)
    refine w_region ?_
    refine w_pure want_none (y_move (v := .slice _ _ _) rfl rfl) rfl ?_
    refine w_pure want_none (y_assign (v := .slice _ _ _) rfl rfl) rfl ?_
    refine w_nil ?_
    refine q_then (hK31 _ _ ?_)
    refine w_ret ?_
    refine q_ret (l := [.tmp 4]) (vs := [_]) rfl ⟨⟨rfl, show _ = (.slice _ _ _ : Value) from rfl⟩, trivial⟩ ?_
    have hil : i = l.length := by omega
    subst hil
    exact ⟨[(b8, _)], _, _, by rw [gotTo_len]; rfl, sl_own_ints (i := 0) rfl rfl (List.take_of_length_le (by simp)), keep_mid hs⟩

theorem c39 {w0 w : World} {F : List (Nat × Obj)} (m : Market) (p : At3) (hm : MIn w0 F m p) (hok : m.Ok) (ah : Option Addr) (ch : Nat) (hands : List Int) (hhl : hands.length = m.rooms.length) (hhs : Sl w0 F ah 1 (hands.map fun x => [Value.int .i64 x])) (hhb : ∀ z ∈ hands, 0 ≤ z ∧ z ≤ 200) (hhn : ah = none → ch = 0) (ax : Option Addr) (cx : Nat) (x : List Int) (hxl : x.length ≤ 9223372036854775807) (hxs : Sl w0 F ax 1 (x.map fun n => [Value.int .u8 n])) (hxr : ∀ z ∈ x, 0 ≤ z ∧ z ≤ 255) (hs : St w0 w F) :
  Con Try.prog 39 [.agg (m.cells p).toArray, .slice ah hands.length ch, .slice ax x.length cx] w fun v w' => ∃ B a c, v = .slice a (anyTo m hands x m.trains.length).1.length c ∧ Sl w0 B a 1 ((anyTo m hands x m.trains.length).1.map fun x => [Value.int .i64 x]) ∧ St w0 w' (B ++ F) := by
  refine con_of_wc (n := 59) Try.func39 rfl rfl (Nat.le_of_ble_eq_true rfl) ?_
  have hls := hok.ls
  have hlt := hok.lt
  have hlr := hok.lr
  refine w_seq (fun K2 hK1 => ?_)
  refine w_region ?_
  refine w_box (v := .agg #[.slice _ _ _, .slice _ _ _, .slice _ _ _]) (cs := [_, _, _]) want_none rfl rfl rfl hs (fun b3 w4 hs5 => ?_)
  refine w_pure want_none (y_assign (v := _) rfl rfl) rfl ?_
  refine w_nil ?_
  refine q_then (hK1 _ _ ?_)
  refine w_seq (fun K7 hK6 => ?_)
  have hbx : Ats w0 ((b3, blk 26 (m.cells p)) :: F) b3 0 (m.cells p) := ats_own (i := 0) (vs := m.cells p) rfl rfl
  refine w_region ?_
  refine w_bslice (ps := []) (pv := []) (cs := []) want_none rfl rfl (fun w => Try_Ze_fb7  w) hs5 (fun b8 w9 hs10 => ?_)
  refine w_pure want_none (y_move (v := .slice _ _ _) rfl rfl) rfl ?_
  refine w_append (X := ([])) (B := [_]) (rows := (hands.map fun x => [Value.int .i64 x])) (sz := 1) (bytes := 8) want_none Try.underlying30 Try_info3 rfl rfl rfl rfl rfl rfl rfl rfl rfl hs10 own_made hhs.cons.cons (List.length_map _) hhn (ints_one _) (by simp only [maxLen]; omega) (by omega) (fun v11 w12 B13 ho14 hs15 => ?_)
  replace hs15 := (show St _ _ (B13 ++ (_ :: F)) from hs15)
  refine w_pure want_none (y_assign (v := v11) rfl rfl) rfl ?_
  refine w_nil ?_
  refine q_then (hK6 _ _ ?_)
  refine w_seq (fun K17 hK16 => ?_)
  refine w_region ?_
  refine w_pure want_none (y_assign (v := _) rfl rfl) rfl ?_
  refine w_nil ?_
  refine q_then (hK16 _ _ ?_)
  refine w_seq (fun K19 hK18 => ?_)
  refine w_seq (fun K21 hK20 => ?_)
  refine w_region ?_
  refine w_pure want_none (y_assign (v := _) rfl rfl) rfl ?_
  refine w_nil ?_
  refine q_then (hK20 _ _ ?_)
  refine w_block ?_
  refine w_loop [8, 9, 10, 11, 15, 16, 17, 18, 19, 20, 21, 22, 23, 24, 25, 26, 27, 28, 29, 30, 31, 32, 33, 34, 35, 36, 37, 38, 39, 40, 41, 42, 43, 44, 45, 46, 47, 48, 49, 50, 51, 52, 53, 54, 55, 56, 57] [8, 9] (fun k vs w => ∃ (i : Nat) (vO : Value) (LB OB : List (Nat × Obj)), vs = [vO, .int .i64 i] ∧ i ≤ m.trains.length ∧ k = m.trains.length - i ∧ Rt.Own v11 3 1 m.rooms.length (iv (anyTo m hands x i).2) LB ∧ Rt.Own vO 3 1 (anyTo m hands x i).1.length (iv (anyTo m hands x i).1) OB ∧ St w0 w (LB ++ (OB ++ ((b3, blk 26 (m.cells p)) :: F)))) (m.trains.length) ?_ ?_
  ·
   rw [Nat.zero_add, List.nil_append, flat_ints, hhl] at ho14
   exact ⟨0, _, _, [], rfl, by omega, by omega, ho14, own_nil 3 1, hs15⟩
  ·
   intro k vs μ w24 hI K23 hN22
   obtain ⟨i, vO, LB, OB, rfl, hia, rfl, hownL, hown, hs⟩ := hI
   refine w_seq (fun K26 hK25 => ?_)
   refine w_seq (fun K28 hK27 => ?_)
   refine w_region ?_
   refine w_pure want_none (y_move (v := .int _ _) rfl rfl) rfl ?_
   refine w_pure want_none (y_fieldAddr (o := 2) (i := 2) Try.underlying26 rfl Try.sizeOf24 rfl rfl rfl) rfl ?_
   refine w_pure want_none (y_load1 Try.isAgg24 hs.drop.drop rfl rfl (show Ats _ _ _ _ [_] from Ats.part hbx 2 1)) rfl ?_
   refine w_pure want_none (y_lenS Try.underlying24 rfl rfl) rfl ?_
   refine w_pure want_none (y_lss rfl rfl rfl rfl) rfl ?_
   refine w_nil ?_
   refine q_then (hK27 _ _ ?_)
   refine w_cond rfl rfl (fun h29 => ?_) (fun h29 => ?_)
   ·
    try simp only [Bool.not_eq_true', Bool.not_eq_false', decide_eq_true_eq, decide_eq_false_iff_not, Int.not_lt, Int.not_le] at h29
    refine w_skip ?_
    refine q_then (hK25 _ _ ?_)
    refine w_seq (fun K31 hK30 => ?_)
    refine w_block ?_
    refine w_seq (fun K33 hK32 => ?_)
    have hi2 : i < m.trains.length := by omega
    obtain ⟨bt, ot, hbt, hxt⟩ := sl_trows hm.t hi2
    have htt := hok.train _ (List.getElem_mem hi2)
    obtain ⟨hf1, hf2, hf3, hf4⟩ := anyTo_fine hok hhl hhb (x := x) i hia
    have hr2 : (m.trains[i]'hi2).room.toNat < (anyTo m hands x i).2.length := by omega
    have hrb := hf3 _ (List.getElem_mem hr2)
    have hgd : (anyTo m hands x i).2.getD (m.trains[i]'hi2).room.toNat 0 = (anyTo m hands x i).2[(m.trains[i]'hi2).room.toNat]'hr2 := by simp [List.getD, hr2]
    have hn := anyN_in (m := m) (x := x) (t := (m.trains[i]'hi2)) hf3 ⟨htt.2.2.2.2.2.2.1, htt.2.2.2.2.2.2.2⟩ i
    rw [hgd] at hn
    have htr := turn_in hxr i
    obtain ⟨bl, capl, csl, rfl, hBl, hcl1, hcl2, hcl3, hcl4⟩ := own_some hownL (by omega)
    subst hBl
    replace hs := (show St _ _ ((bl, blk 3 csl) :: (OB ++ ((b3, blk 26 (m.cells p)) :: F))) from hs)
    obtain ⟨bx, ox, hbx2, hx⟩ := sl_ints (sl_own_ints (w0 := w0) (L := (bl, blk 3 csl) :: (OB ++ ((b3, blk 26 (m.cells p)) :: F))) (i := 0) rfl hf2 hcl4) hr2
    cases hbx2
    refine w_region ?_
    refine w_pure want_none (y_fieldAddr (o := 2) (i := 2) Try.underlying26 rfl Try.sizeOf24 rfl rfl rfl) rfl ?_
    refine w_pure want_none (yd_slice hbt (y_load1 Try.isAgg24 hs.tail.drop rfl rfl (show Ats _ _ _ _ [_] from Ats.part hbx 2 1))) rfl ?_
    refine w_pure want_none (y_move (v := .int _ _) rfl rfl) rfl ?_
    refine w_pure want_none (y_indexS Try.underlying24 Try.sizeOf63 rfl rfl rfl rfl (i := _) rfl (by omega)) rfl ?_
    refine w_pure want_none (y_loadN (vs := [_, _, _, _]) Try.isAgg63 Try.sizeOf63 hs.tail.drop.tail rfl rfl hxt) rfl ?_
    refine w_alloc (cs := [_, _, _, _]) want_none Try.zeroValue63 rfl hs (fun b34 w35 hs36 => ?_)
    refine w_store (i := 0) (v := .agg #[.int _ _, .int _ _, .int _ _, .int _ _]) (vs := [_, _, _, _]) want_none Try.sizeOf63 rfl rfl rfl rfl rfl (by simp [Value.oneCell']) hs36 rfl (Nat.le_of_ble_eq_true rfl) (fun w37 hs38 => ?_)
    refine w_nil ?_
    refine q_then (hK32 _ _ ?_)
    refine w_seq (fun K40 hK39 => ?_)
    refine w_region ?_
    refine w_pure want_none (y_assign (v := _) rfl rfl) rfl ?_
    refine w_nil ?_
    refine q_then (hK39 _ _ ?_)
    refine w_seq (fun K42 hK41 => ?_)
    refine w_cut [11, 27, 28, 29, 30, 31, 32, 33, 34, 35, 36, 37, 38, 39, 40, 41, 42] [11] (fun vs w => vs = [.int .i64 (anyN m x (anyTo m hands x i).2 i (m.trains[i]'hi2))] ∧ St w0 w ((b34, blk 63 (Train.cells (m.trains[i]'hi2))) :: ((bl, blk 3 csl) :: (OB ++ ((b3, blk 26 (m.cells p)) :: F))))) (fun K44 hC43 => ?_) ?_
    ·
     refine w_seq (fun K46 hK45 => ?_)
     refine w_region ?_
     refine w_pure want_none (y_loadN (vs := [_, _, _]) Try.isAgg26 Try.sizeOf26 hs38.tail.tail.drop rfl rfl hbx) rfl ?_
     refine w_pure want_none (y_loadN (vs := [_, _, _, _]) Try.isAgg63 Try.sizeOf63 hs38 rfl rfl (ats_own (i := 0) (vs := [_, _, _, _]) rfl rfl)) rfl ?_
     refine w_call want_none Try.call53 rfl rfl rfl rfl (c53 m _ hm.cons.app.cons.cons hok _ (List.getElem_mem hi2) hs38) ?_
     rintro _ w48 ⟨rfl, hs49⟩
     refine w_nil ?_
     refine q_then (hK45 _ _ ?_)
     refine w_cond rfl rfl (fun h50 => ?_) (fun h50 => ?_)
     ·
      try simp only [Bool.not_eq_true', Bool.not_eq_false', decide_eq_true_eq, decide_eq_false_iff_not, Int.not_lt, Int.not_le] at h50
      refine w_draw [] [(0, 0), (1, 0), (3, 0), (4, 1), (5, 0), (6, 0), (7, 1), (8, 0), (9, 1), (10, 0), (11, 0), (2, 2), (12, 0), (13, 0)] Try_mo (by kernel_rfl) hs49 (fun w51 hs52 => ?_)
      refine d_any rfl want_none rfl (fun _ => (y_move (v := .slice _ _ _) rfl rfl)) ?_
      refine d_any rfl want_none rfl (fun _ => (y_move (v := .int _ _) rfl rfl)) ?_
      refine d_any rfl want_none rfl (fun _ => (y_fieldAddr (o := 3) (i := 3) Try.underlying63 rfl Try.sizeOf3 rfl rfl rfl)) ?_
      refine d_take rfl want_none rfl hs52 (fun _ hq => (y_load1 Try.isAgg3 hq rfl rfl (ats_own (i := 0) (vs := [_]) rfl rfl))) ?_
      refine d_any rfl want_none rfl (fun _ => (y_move (v := .slice _ _ _) rfl rfl)) ?_
      refine d_any rfl want_none rfl (fun _ => (y_fieldAddr (o := 0) (i := 0) Try.underlying63 rfl Try.sizeOf3 rfl rfl rfl)) ?_
      refine d_take rfl want_none rfl hs52 (fun _ hq => (y_load1 Try.isAgg3 hq rfl rfl (ats_own (i := 0) (vs := [_]) rfl rfl))) ?_
      refine d_any rfl want_none rfl (fun _ => (y_indexS Try.underlying30 Try.sizeOf3 rfl rfl rfl rfl (i := (m.trains[i]'hi2).room.toNat) (by omega) (by omega))) ?_
      refine d_take rfl want_none rfl hs52 (fun _ hq => (y_load1 Try.isAgg3 hq.tail rfl rfl hx)) ?_
      refine d_any rfl want_none rfl (fun _ => (y_min2 rfl rfl rfl rfl)) ?_
      refine d_any rfl want_none rfl (fun _ => (y_add rfl rfl rfl rfl (by omega) (by omega))) ?_
      refine d_eff rfl ?_
      refine w_call want_none Try.call79 rfl rfl rfl rfl (c79 _ _ x hxl hxs.cons.app.cons.cons hxr i hs52) ?_
      rintro _ w54 ⟨rfl, hs55⟩
      refine w_nil ?_
      refine qn ⟨hs55, ?_⟩
      refine d_any rfl want_none rfl (fun _ => (y_rem rfl rfl rfl rfl (by omega) (by omega))) ?_
      refine d_any rfl want_none rfl (fun _ => (y_assign (v := .int _ _) rfl rfl)) ?_
      refine d_nil ?_
      refine q_then (hC43 _ _ (Md.intro (by repeat (first | exact agree_refl | exact agree_mix | refine agree_upd rfl ?_ | refine agree_updL rfl ?_ _ | refine agree_mixin rfl ?_)) ?_))
      first
        | exact ⟨by rw [anyN_yes (by assumption) hgd]; rfl, hs55⟩
        | exact ⟨by rw [anyN_no (by assumption)]; rfl, hs55⟩
     ·
      try simp only [Bool.not_eq_true', Bool.not_eq_false', decide_eq_true_eq, decide_eq_false_iff_not, Int.not_lt, Int.not_le] at h50
      refine w_skip ?_
      refine q_then (hC43 _ _ (Md.intro (by repeat (first | exact agree_refl | exact agree_mix | refine agree_upd rfl ?_ | refine agree_updL rfl ?_ _ | refine agree_mixin rfl ?_)) ?_))
      first
        | exact ⟨by rw [anyN_yes (by assumption) hgd]; rfl, hs49⟩
        | exact ⟨by rw [anyN_no (by assumption)]; rfl, hs49⟩
    ·
     intro vs μ w56 hM
     obtain ⟨rfl, hs⟩ := hM
     refine q_then (hK41 _ _ ?_)
     refine w_seq (fun K58 hK57 => ?_)
     refine w_draw [11] [(0, 0), (1, 0), (2, 1), (3, 0), (4, 0), (5, 1), (6, 0), (7, 1), (8, 0), (9, 0), (10, 0), (11, 3)] Try_mo (by kernel_rfl) hs (fun w59 hs60 => ?_)
     refine d_any rfl want_none rfl (fun _ => (y_move (v := .slice _ _ _) rfl rfl)) ?_
     refine d_any rfl want_none rfl (fun _ => (y_fieldAddr (o := 0) (i := 0) Try.underlying63 rfl Try.sizeOf3 rfl rfl rfl)) ?_
     refine d_take rfl want_none rfl hs60 (fun _ hq => (y_load1 Try.isAgg3 hq rfl rfl (ats_own (i := 0) (vs := [_]) rfl rfl))) ?_
     refine d_any rfl want_none rfl (fun _ => (y_move (v := .slice _ _ _) rfl rfl)) ?_
     refine d_any rfl want_none rfl (fun _ => (y_fieldAddr (o := 0) (i := 0) Try.underlying63 rfl Try.sizeOf3 rfl rfl rfl)) ?_
     refine d_take rfl want_none rfl hs60 (fun _ hq => (y_load1 Try.isAgg3 hq rfl rfl (ats_own (i := 0) (vs := [_]) rfl rfl))) ?_
     refine d_any rfl want_none rfl (fun _ => (y_indexS Try.underlying30 Try.sizeOf3 rfl rfl rfl rfl (i := (m.trains[i]'hi2).room.toNat) (by omega) (by omega))) ?_
     refine d_take rfl want_none rfl hs60 (fun _ hq => (y_load1 Try.isAgg3 hq.tail rfl rfl hx)) ?_
     refine d_any rfl want_none rfl (fun _ => (y_move (v := .int _ _) rfl rfl)) ?_
     refine d_any rfl want_none rfl (fun _ => (y_sub rfl rfl rfl rfl (by omega) (by omega))) ?_
     refine d_any rfl want_none rfl (fun _ => (y_indexS Try.underlying30 Try.sizeOf3 rfl rfl rfl rfl (i := (m.trains[i]'hi2).room.toNat) (by omega) (by omega))) ?_
     refine d_late rfl ?_
     refine w_store (i := 1) (v := .int _ _) (vs := [_]) want_none Try.sizeOf3 rfl rfl rfl rfl rfl (by simp [Value.oneCell']) hs60 rfl (show 0 + (m.trains[i]'hi2).room.toNat * 1 + 1 ≤ csl.length by omega) (fun w61 hs62 => ?_)
     have hcl5 : (csl.set ((m.trains[i]'hi2).room.toNat) (.int .i64 ((anyTo m hands x i).2[(m.trains[i]'hi2).room.toNat]'hr2 - anyN m x (anyTo m hands x i).2 i (m.trains[i]'hi2)))).take (m.rooms.length * 1) = iv (subAt (anyTo m hands x i).2 (m.trains[i]'hi2).room.toNat (anyN m x (anyTo m hands x i).2 i (m.trains[i]'hi2))) := subAt_cells hf2 hr2 hcl4
     replace hs62 := (show St _ _ (_ :: (bl, blk 3 (csl.set ((m.trains[i]'hi2).room.toNat) (.int .i64 ((anyTo m hands x i).2[(m.trains[i]'hi2).room.toNat]'hr2 - anyN m x (anyTo m hands x i).2 i (m.trains[i]'hi2))))) :: OB ++ (_ :: F)) from (by have h6 := hs62; simp only [setMany, Nat.zero_add, Nat.mul_one] at h6; exact h6))
     refine w_nil ?_
     refine qn ?_
     refine d_nil ?_
     refine q_then (hK57 _ _ ?_)
     refine w_region ?_
     refine w_pure want_none (y_move (v := vO) rfl rfl) rfl ?_
     refine w_pure want_none (y_move (v := .int _ _) rfl rfl) rfl ?_
     refine w_bslice (ps := [(0, _)]) (pv := [(0, .int _ _)]) (cs := [_]) want_none rfl rfl (fun w => Try_Ze_fb6 _ w) hs62 (fun b63 w64 hs65 => ?_)
     refine w_append (X := (_ :: _ :: _ :: [])) (B := OB) (rows := [[_]]) (sz := 1) (bytes := 8) want_none Try.underlying30 Try_info3 rfl rfl rfl rfl rfl rfl rfl rfl rfl hs65 hown (sl_own (i := 0) rfl (by simp) rfl) rfl (by simp) (by simp [Value.oneCell']) (by simp only [maxLen]; omega) (by omega) (fun v66 w67 B68 ho69 hs70 => ?_)
     replace hs70 := (show St _ _ (_ :: _ :: _ :: B68 ++ (_ :: F)) from hs70)
     refine w_pure want_none (y_assign (v := v66) rfl rfl) rfl ?_
     refine w_nil ?_
     refine q_blk_normal ?_
     refine q_then (hK30 _ _ ?_)
     refine w_region ?_
     refine w_pure want_none (y_move (v := .int _ _) rfl rfl) rfl ?_
     refine w_pure want_none (y_add rfl rfl rfl rfl (by omega) (by omega)) rfl ?_
     refine w_pure want_none (y_assign (v := .int _ _) rfl rfl) rfl ?_
     refine w_nil ?_
     refine q_then (hN22 _ _ (Nx.intro (m.trains.length - (i + 1)) (by omega) (by repeat (first | exact agree_mix | refine agree_upd rfl ?_ | refine agree_updL rfl ?_ _ | refine agree_mixin rfl ?_)) ?_))
     exact ⟨i + 1, _, [(bl, _)], _, rfl, by omega, rfl, by rw [anyTo_succ hi2]; exact own_set hf2 hcl1 hcl2 hcl3 hcl5, by rw [anyTo_succ hi2]; exact own_snoc ho69, hs70.tail.tail⟩
   ·
    try simp only [Bool.not_eq_true', Bool.not_eq_false', decide_eq_true_eq, decide_eq_false_iff_not, Int.not_lt, Int.not_le] at h29
    refine w_exit ?_
    refine q_then_exit ?_
    refine q_then_exit ?_
    refine q_blk_this ?_
    refine q_then (hK18 _ _ ?_)
    refine w_seq (fun K72 hK71 => ?_)
    refine w_region ?_
    refine w_pure want_none (y_move (v := vO) rfl rfl) rfl ?_
    refine w_pure want_none (y_assign (v := vO) rfl rfl) rfl ?_
    refine w_nil ?_
    refine q_then (hK71 _ _ ?_)
    refine w_ret ?_
    refine q_ret (l := [.tmp 6]) (vs := [_]) rfl ⟨⟨rfl, show _ = (vO : Value) from rfl⟩, trivial⟩ ?_
    have hil : i = m.trains.length := by omega
    subst hil
    obtain ⟨ag, cg, rfl, hsg, _, _⟩ := own_ints (w0 := w0) hown
    exact ⟨LB ++ (OB ++ [_]), ag, cg, rfl, hsg.top.app, by simp only [List.append_assoc]; exact hs⟩

end Go.Proofs
/- Plain laws of the shop layer: the fewest without, how many hands more. No conditions. -/
set_option linter.unusedSimpArgs false
set_option linter.unusedVariables false
namespace Go.Rt.Sh
theorem bit_test (b i : Nat) : bit b i = (b.testBit i).toNat := by
  unfold bit Nat.testBit
  have := Nat.and_one_is_mod (b >>> i)
  rw [Nat.and_comm 1, this]
  have h : b >>> i % 2 = 0 ∨ b >>> i % 2 = 1 := by omega
  rcases h with h | h <;> simp [h]
theorem bit_mod {b n i : Nat} (h : i < n) : bit (b % 2 ^ n) i = bit b i := by
  rw [bit_test, bit_test, Nat.testBit_mod_two_pow]; simp [h]
theorem listL_mod (b n : Nat) : ∀ k, k ≤ n → listL (b % 2 ^ n) k = listL b k
  | 0, _ => rfl
  | k + 1, h => by simp only [listL]; rw [listL_mod b n k (by omega), bit_mod (by omega)]
theorem list_rising : ∀ n : Nat, n < 5 → ∀ b < 16, b < 2 ^ n → rising (n : Int) (-1) (listL b n) = true := by decide +kernel
theorem asked_list {m : Market} (h : (check m).2.2 = 0) {sub : Nat} (hs : sub < 2 ^ m.shops.length) : askedE m (listL sub m.shops.length) = 0 := by
  have hok := check_ok h
  have hls := hok.ls
  have hr := list_rising m.shops.length (by omega) sub (pow_16 hls hs) hs
  have hA : askTo m (listL sub m.shops.length) (listL sub m.shops.length).length = 0 := by
    unfold askTo
    rw [if_neg (by simp [h]), List.take_length, if_neg]
    rw [Bool.not_eq_true, List.any_eq_false]
    intro x hx
    have := listL_in sub m.shops.length x hx
    simp [out]; omega
  unfold askedE
  rw [hA, hr]; simp
theorem can_list {m : Market} (h : (check m).2.2 = 0) {sub : Nat} (hs : sub < 2 ^ m.shops.length) : canP m (listL sub m.shops.length) = if servedR m (leastL m) (listL sub m.shops.length) then (1, 0) else if servedR m (mostL m) (listL sub m.shops.length) = false then (2, 0) else (0, 0) := by
  rw [← can_same]; unfold canR; rw [asked_list h hs, if_neg (by simp)]
theorem others_at {m : Market} (hok : m.Ok) (b : Nat) : ∃ c < 2 ^ m.shops.length, othersTo (listL b m.shops.length) m.shops.length = listL c m.shops.length := by
  have hls := hok.ls
  have hp : b % 2 ^ m.shops.length < 2 ^ m.shops.length := Nat.mod_lt _ (Nat.two_pow_pos _)
  have := others_list m.shops.length (by omega) (b % 2 ^ m.shops.length) (pow_16 hls hp) hp
  rw [listL_mod b _ _ (Nat.le_refl _)] at this
  exact ⟨_, this.2, this.1⟩
structure FewestF (m : Market) (b : Nat) : Prop where
  wp : withoutP m = (withoutL m, 0)
  ri : rising m.shops.length (-1) (withoutL m) = true
  how : canP m (othersTo (withoutL m) m.shops.length) = (1, 0)
  so : (canP m (othersTo (listL b m.shops.length) m.shops.length)).2 = 0
  less : (canP m (othersTo (listL b m.shops.length) m.shops.length)).1 = 1 → before (listL b m.shops.length) (withoutL m) = false
theorem fewest {m : Market} (h : (check m).2.2 = 0) (b : Nat) : FewestF m b := by
  have hok := check_ok h
  have hls := hok.ls
  have hne : ¬ ((check m).2.2 ≠ 0) := by simp [h]
  obtain ⟨w, hw, e, e1, e2, e3⟩ := without_sub hok
  have hmin := withoutL_min hok
  obtain ⟨c, hc, ec⟩ := others_at hok b
  refine ⟨by unfold withoutP; rw [if_neg hne], ?_, ?_, ?_, ?_⟩
  · rw [e]; exact list_rising _ (by omega) w (pow_16 hls hw) hw
  · rw [e1, can_list h e2, ← e1, e3]; rfl
  · rw [ec, can_list h hc]; split <;> (try split) <;> rfl
  · intro h1
    have hso : othersOk m (listL b m.shops.length) := by
      rw [ec, can_list h hc] at h1
      unfold othersOk
      rw [ec]
      split at h1
      · assumption
      · split at h1 <;> cases h1
    have hp : b % 2 ^ m.shops.length < 2 ^ m.shops.length := Nat.mod_lt _ (Nat.two_pow_pos _)
    have hn := others_nil m.shops.length (by omega)
    have hin : listL b m.shops.length ∈ setsL (othersTo [] m.shops.length) := by
      rw [hn.1, ← listL_mod b _ _ (Nat.le_refl _)]
      exact sets_all m.shops.length (by omega) _ hn.2.2.2.1 hn.2.1 _ (pow_16 hls hp) ((diff_all m.shops.length (by omega) _ (pow_16 hls hp)).2 hp)
    rcases hmin.2.2 _ hin hso with h2 | h2
    · rw [h2]; exact before_irrefl _
    · exact before_asymm h2
theorem withoutP_bad {m : Market} (h : (check m).2.2 ≠ 0) : withoutP m = ([], (check m).2.2) := by unfold withoutP; rw [if_pos h]
/-! ### More -/
theorem moreToR_spec (m : Market) (r : Nat) : ∀ k i, (∀ n, moreToR m r i k = some n → i ≤ n ∧ n < i + k ∧ servedR m (leastL (withM m r n)) (allL' m) = true ∧ ∀ j : Nat, i ≤ j → j < n → servedR m (leastL (withM m r j)) (allL' m) = false) ∧ (moreToR m r i k = none → ∀ j : Nat, i ≤ j → j < i + k → servedR m (leastL (withM m r j)) (allL' m) = false)
  | 0, i => ⟨fun n h => by simp [moreToR] at h, fun _ j h1 h2 => by omega⟩
  | k + 1, i => by
    obtain ⟨ih1, ih2⟩ := moreToR_spec m r k (i + 1)
    unfold moreToR
    by_cases hs : servedR m (leastL (withM m r i)) (allL' m) = true
    · rw [if_pos hs]
      exact ⟨fun n h => by cases h; exact ⟨by omega, by omega, hs, fun j h1 h2 => by omega⟩, fun h => by cases h⟩
    · rw [if_neg hs]
      refine ⟨fun n h => ?_, fun h j h1 h2 => ?_⟩
      · obtain ⟨a, b, c, d⟩ := ih1 n h
        refine ⟨by omega, by omega, c, fun j h1 h2 => ?_⟩
        by_cases e : j = i
        · subst e; simpa using hs
        · exact d j (by omega) h2
      · by_cases e : j = i
        · subst e; simpa using hs
        · exact ih2 h j (by omega) (by omega)
theorem withM_zero {m : Market} {r : Nat} (hr : r < m.rooms.length) : leastL (withM m r 0) = leastL m := by
  rw [leastL_with _ hr]
  have := subAt_zero (leastL m) r
  unfold subAt at this
  simpa using this
theorem without_nil {m : Market} (hok : m.Ok) : withoutL m = [] ↔ servedR m (leastL m) (allL' m) = true := by
  obtain ⟨h1, h2, h3⟩ := withoutL_min hok
  constructor
  · intro h; unfold othersOk at h2; rw [h] at h2; exact h2
  · intro h
    have hn := others_nil m.shops.length (by have := hok.ls; omega)
    have hin : listL 0 m.shops.length ∈ setsL (othersTo [] m.shops.length) := by
      rw [hn.1]
      exact sets_all m.shops.length (by have := hok.ls; omega) _ hn.2.2.2.1 hn.2.1 0 (by omega) (by simp [bitDiff])
    have e0 : listL 0 m.shops.length = [] := by
      have : ∀ k, listL 0 k = [] := by intro k; induction k with | zero => rfl | succ k ih => simp [listL, ih, bit]
      exact this _
    rw [e0] at hin
    rcases h3 [] hin h with h4 | h4
    · exact h4.symm
    · unfold before at h4
      cases hw : withoutL m with
      | nil => rfl
      | cons x l => rw [hw] at h4; simp [less] at h4
structure MoreF (m : Market) (r : Nat) : Prop where
  wp : (withoutP m).2 = 0
  eq : ((moreP m r).2 = 0 ∧ (moreP m r).1 = 0) ↔ (withoutP m).1.length = 0
  bad : (moreP m r).2 ≠ 0 → (moreP m r).2 = 9 ∧ (moreP m r).1 = 0 ∧ servedR m (leastL (withM m r 60)) (allL' m) = false
  good : (moreP m r).2 = 0 → 0 ≤ (moreP m r).1 ∧ (moreP m r).1 ≤ 60 ∧ servedR m (leastL (withM m r (moreP m r).1)) (allL' m) = true ∧ ((moreP m r).1 ≠ 0 → servedR m (leastL (withM m r ((moreP m r).1 - 1))) (allL' m) = false)
theorem more_facts {m : Market} (h : (check m).2.2 = 0) {r : Nat} (hr : r < m.rooms.length) : MoreF m r := by
  have hok := check_ok h
  have hne : ¬ ((check m).2.2 ≠ 0) := by simp [h]
  have hwp : withoutP m = (withoutL m, 0) := by unfold withoutP; rw [if_neg hne]
  have hee : enterE m m.rooms.length [(r : Int)] = 0 := enterE_0 h (by simp [out]; omega)
  obtain ⟨s1, s2⟩ := moreToR_spec m r 61 0
  have hn := without_nil hok
  cases e : moreToR m r 0 61 with
  | none =>
    have hm : moreP m r = (0, 9) := by rw [← more_same]; exact moreR_3 hee e
    have hf := s2 e
    refine ⟨by rw [hwp], ?_, by rw [hm]; exact fun _ => ⟨rfl, rfl, hf 60 (by omega) (by omega)⟩, by rw [hm]; exact fun h => by simp at h⟩
    rw [hwp, hm]
    constructor
    · rintro ⟨h1, _⟩; simp at h1
    · intro h1
      have h2 := hn.1 (List.length_eq_zero_iff.1 h1)
      have h3 := hf 0 (by omega) (by omega)
      rw [show ((0 : Nat) : Int) = 0 from rfl, withM_zero hr, h2] at h3
      cases h3
  | some k =>
    have hm : moreP m r = ((k : Int), 0) := by rw [← more_same]; exact moreR_2 hee e
    obtain ⟨_, a2, a3, a4⟩ := s1 k e
    have hlast : k ≠ 0 → servedR m (leastL (withM m r ((k : Int) - 1))) (allL' m) = false := fun h0 => by
      have := a4 (k - 1) (by omega) (by omega)
      rwa [show (((k - 1 : Nat)) : Int) = (k : Int) - 1 by omega] at this
    refine ⟨by rw [hwp], ?_, by rw [hm]; exact fun h => by simp at h, by rw [hm]; exact fun _ => ⟨by dsimp only; omega, by dsimp only; omega, a3, fun h0 => hlast (by dsimp only at h0; omega)⟩⟩
    · rw [hwp, hm]
      constructor
      · rintro ⟨_, h1⟩
        have : k = 0 := by dsimp only at h1; omega
        subst this
        rw [show ((0 : Nat) : Int) = 0 from rfl, withM_zero hr] at a3
        rw [hn.2 a3]; rfl
      · intro h1
        have h2 := hn.1 (List.length_eq_zero_iff.1 h1)
        refine ⟨rfl, ?_⟩
        rcases Nat.eq_zero_or_pos k with h3 | h3
        · subst h3; rfl
        · have h4 := a4 0 (by omega) h3
          rw [show ((0 : Nat) : Int) = 0 from rfl, withM_zero hr, h2] at h4
          cases h4
theorem moreP_bad {m : Market} {z : Int} (h : (check m).2.2 ≠ 0 ∨ m.rooms.length = 0) : (moreP m z).1 = 0 ∧ (moreP m z).2 ≠ 0 := by
  have he : enterE m m.rooms.length [z] ≠ 0 := by
    by_cases h1 : (check m).2.2 = 0
    · have h2 : m.rooms.length = 0 := by rcases h with h | h; exact absurd h1 h; exact h
      rw [enterE_2 h1 (by rw [h2]; simp [out]; omega)]; decide
    · rw [enterE_1 h1]; exact h1
  rw [moreP_1' he]; exact ⟨rfl, he⟩
where moreP_1' {m : Market} {r : Int} (h : enterE m m.rooms.length [r] ≠ 0) : moreP m r = (0, enterE m m.rooms.length [r]) := by unfold moreP; rw [if_pos h]
end Go.Rt.Sh
namespace Go.Rt.Sh
theorem proof_short (m : Market) (l : List Int) : (proofP m l).1.length ≤ m.shops.length := by
  unfold proofP
  split
  · simp
  · split
    · simp
    · exact worstTo_len _ _ _ _
theorem without_short (m : Market) : (withoutP m).1.length ≤ m.shops.length := by
  unfold withoutP
  split
  · simp
  · exact withoutL_len m
theorem give_short (m : Market) : (giveP m).1.length ≤ m.trains.length := by
  unfold giveP
  by_cases h : (check m).2.2 = 0
  · rw [if_neg (by simp [h])]; show (giveL m).length ≤ _; rw [giveL_len (check_ok h)]; omega
  · rw [if_pos h]; simp
end Go.Rt.Sh
/- Plain laws of the shop layer: what a load carries is bounded by what rooms have and trains can. No conditions. -/
set_option linter.unusedSimpArgs false
set_option linter.unusedVariables false
namespace Go.Rt.Sh
/-- What trains from fro on, below k, carry out of a room, and to a shop. -/
def usedF (m : Market) (l : List Int) (fro r : Nat) : Nat → Int
  | 0 => 0
  | k + 1 => usedF m l fro r k + match m.trains[k]? with | some t => if fro ≤ k ∧ t.room.toNat = r then gD l k else 0 | none => 0
def gotF (m : Market) (l : List Int) (fro s : Nat) : Nat → Int
  | 0 => 0
  | k + 1 => gotF m l fro s k + match m.trains[k]? with | some t => if fro ≤ k ∧ t.shop.toNat = s then gD l k else 0 | none => 0
/-- What is carried out of a room to a set of shops. -/
def partF (m : Market) (l : List Int) (fro r : Nat) (b : Nat → Bool) : Nat → Int
  | 0 => 0
  | k + 1 => partF m l fro r b k + match m.trains[k]? with | some t => if fro ≤ k ∧ t.room.toNat = r ∧ b t.shop.toNat = true then gD l k else 0 | none => 0
structure Load (m : Market) (h : Nat → Int) (l : List Int) : Prop where
  len : l.length = m.trains.length
  ok : ∀ k (hk : k < m.trains.length), 0 ≤ gD l k ∧ gD l k ≤ m.trains[k].cap ∧ (leaves m m.trains[k] = false → gD l k = 0)
  rooms : ∀ r, usedF m l 0 r m.trains.length ≤ h r
theorem usedF_succ {m : Market} {l : List Int} {fro r k : Nat} (hk : k < m.trains.length) : usedF m l fro r (k + 1) = usedF m l fro r k + if fro ≤ k ∧ m.trains[k].room.toNat = r then gD l k else 0 := by simp only [usedF, List.getElem?_eq_getElem hk]
theorem gotF_succ {m : Market} {l : List Int} {fro s k : Nat} (hk : k < m.trains.length) : gotF m l fro s (k + 1) = gotF m l fro s k + if fro ≤ k ∧ m.trains[k].shop.toNat = s then gD l k else 0 := by simp only [gotF, List.getElem?_eq_getElem hk]
theorem partF_succ {m : Market} {l : List Int} {fro r k : Nat} {b : Nat → Bool} (hk : k < m.trains.length) : partF m l fro r b (k + 1) = partF m l fro r b k + if fro ≤ k ∧ m.trains[k].room.toNat = r ∧ b m.trains[k].shop.toNat = true then gD l k else 0 := by simp only [partF, List.getElem?_eq_getElem hk]
theorem sumN_at (k : Nat) (v : Int) : ∀ n, sumN n (fun i => if i = k then v else 0) = if k < n then v else 0
  | 0 => by simp [sumN]
  | n + 1 => by
    simp only [sumN, sumN_at k v n]
    by_cases h : n = k
    · subst h; rw [if_neg (by omega), if_pos rfl, if_pos (by omega)]; omega
    · rw [if_neg h]
      by_cases h2 : k < n
      · rw [if_pos h2, if_pos (by omega)]; omega
      · rw [if_neg h2, if_neg (by omega)]; omega
theorem sumN_at' {k n : Nat} (v : Int) (h : k < n) : sumN n (fun i => if i = k then v else 0) = v := by rw [sumN_at, if_pos h]
/-- Counted by shops or by rooms it is the same. -/
theorem count_same {m : Market} (hok : m.Ok) (l : List Int) (fro : Nat) (b : Nat → Bool) : ∀ k, k ≤ m.trains.length → sumN m.shops.length (fun s => if b s then gotF m l fro s k else 0) = sumN m.rooms.length (fun r => partF m l fro r b k)
  | 0, _ => by
    simp only [gotF, partF]
    rw [sumN_congr (g := fun _ => 0) _ fun i _ => by split <;> rfl]
    rw [sumN_zero, sumN_zero]
  | k + 1, hk => by
    have hkl : k < m.trains.length := by omega
    have ih := count_same hok l fro b k (by omega)
    have ht := hok.train _ (List.getElem_mem hkl)
    have e1 : sumN m.shops.length (fun s => if b s then gotF m l fro s (k + 1) else 0) = sumN m.shops.length (fun s => if b s then gotF m l fro s k else 0) + (if fro ≤ k ∧ b m.trains[k].shop.toNat = true then gD l k else 0) := by
      have h1 := sumN_at' (k := m.trains[k].shop.toNat) (n := m.shops.length) (if fro ≤ k ∧ b m.trains[k].shop.toNat = true then gD l k else 0) (by omega)
      rw [← h1, sumN_add]
      refine sumN_congr _ fun s _ => ?_
      rw [gotF_succ hkl]
      by_cases hs : s = m.trains[k].shop.toNat
      · subst hs
        rw [if_pos rfl]
        cases b m.trains[k].shop.toNat <;> by_cases hf : fro ≤ k <;> simp [hf]
      · have hn : ¬ (fro ≤ k ∧ m.trains[k].shop.toNat = s) := fun h => hs h.2.symm
        simp only [if_neg hs, if_neg hn, Int.add_zero]
    have e2 : sumN m.rooms.length (fun r => partF m l fro r b (k + 1)) = sumN m.rooms.length (fun r => partF m l fro r b k) + (if fro ≤ k ∧ b m.trains[k].shop.toNat = true then gD l k else 0) := by
      have h1 := sumN_at' (k := m.trains[k].room.toNat) (n := m.rooms.length) (if fro ≤ k ∧ b m.trains[k].shop.toNat = true then gD l k else 0) (by omega)
      rw [← h1, sumN_add]
      refine sumN_congr _ fun s _ => ?_
      rw [partF_succ hkl]
      by_cases hs : s = m.trains[k].room.toNat
      · subst hs; simp
      · rw [if_neg hs, if_neg (fun h => hs h.2.1.symm)]
    rw [e1, e2, ih]
theorem part_cap {m : Market} {h : Nat → Int} {l : List Int} (hl : Load m h l) (fro r : Nat) (b : Nat → Bool) : ∀ k, k ≤ m.trains.length → partF m l fro r b k ≤ capR (trsTo m fro k) b r
  | 0, _ => by simp [partF, trsTo, capR]
  | k + 1, hk => by
    have hkl : k < m.trains.length := by omega
    have ih := part_cap hl fro r b k (by omega)
    obtain ⟨h1, h2, h3⟩ := hl.ok k hkl
    rw [partF_succ hkl]
    simp only [trsTo, List.getElem?_eq_getElem hkl]
    by_cases hc : fro ≤ k ∧ m.trains[k].room.toNat = r ∧ b m.trains[k].shop.toNat = true
    · rw [if_pos hc]
      by_cases hlv : leaves m m.trains[k] = true
      · rw [if_pos ⟨hc.1, hlv⟩, capR_snoc, if_pos ⟨hc.2.1, hc.2.2⟩]
        show _ ≤ _ + m.trains[k].cap
        omega
      · rw [if_neg (fun h => hlv h.2), h3 (by simpa using hlv)]; omega
    · rw [if_neg hc]
      by_cases hlv : fro ≤ k ∧ leaves m m.trains[k] = true
      · rw [if_pos hlv, capR_snoc, if_neg (fun h => hc ⟨hlv.1, h.1, h.2⟩)]; omega
      · rw [if_neg hlv]; omega
theorem part_used {m : Market} {h : Nat → Int} {l : List Int} (hl : Load m h l) (fro r : Nat) (b : Nat → Bool) : ∀ k, k ≤ m.trains.length → partF m l fro r b k ≤ usedF m l fro r k
  | 0, _ => by simp [partF, usedF]
  | k + 1, hk => by
    have hkl : k < m.trains.length := by omega
    have ih := part_used hl fro r b k (by omega)
    obtain ⟨h1, _, _⟩ := hl.ok k hkl
    rw [partF_succ hkl, usedF_succ hkl]
    by_cases hc : fro ≤ k ∧ m.trains[k].room.toNat = r
    · rw [if_pos hc]; split <;> omega
    · rw [if_neg hc, if_neg (fun h => hc ⟨h.1, h.2.1⟩)]; omega
/-- What shops of a set get of the trains from fro on. -/
theorem load_flow {m : Market} (hok : m.Ok) {h : Nat → Int} {l : List Int} (hl : Load m h l) (fro : Nat) (b : Nat → Bool) (g : Nat → Int) (hg : ∀ r, usedF m l fro r m.trains.length ≤ g r) :
    sumN m.shops.length (fun s => if b s then gotF m l fro s m.trains.length else 0) ≤ sumN m.rooms.length (fun r => min (g r) (capR (trs m fro) b r)) := by
  rw [count_same hok l fro b _ (Nat.le_refl _)]
  refine sumN_le _ fun r _ => ?_
  have h1 := part_cap hl fro r b _ (Nat.le_refl _)
  have h2 := part_used hl fro r b _ (Nat.le_refl _)
  have h3 := hg r
  unfold trs
  omega
/-- If the shops of a set get what they want, none of them lack anything. -/
theorem load_serves {m : Market} (hok : m.Ok) {h : Nat → Int} {l : List Int} (hl : Load m h l) (fro : Nat) (g w : Nat → Int) (hg : ∀ r, usedF m l fro r m.trains.length ≤ g r) {sh : Nat → Bool} (hw : ∀ s < m.shops.length, sh s = true → w s ≤ gotF m l fro s m.trains.length) :
    NoLack m.rooms.length m.shops.length (trs m fro) g w sh := by
  intro b hb
  have h1 := load_flow hok hl fro b g hg
  have h2 : sumN m.shops.length (fun s => if b s then w s else 0) ≤ sumN m.shops.length (fun s => if b s then gotF m l fro s m.trains.length else 0) := sumN_le _ fun s hs => by
    by_cases e : b s = true
    · rw [if_pos e, if_pos e]; exact hw s hs (hb s e)
    · rw [if_neg e, if_neg e]; omega
  unfold lk
  omega
theorem gotF_to {m : Market} (hok : m.Ok) (l : List Int) : ∀ k, k ≤ m.trains.length → ∀ s, s < m.shops.length → gD (gotTo m l k) s = gotF m l 0 s k
  | 0, _, s, hs => by simp [gD, gotTo, gotF, List.getD, hs]
  | k + 1, hk, s, hs => by
    have hkl : k < m.trains.length := by omega
    have ih := gotF_to hok l k (by omega) s hs
    have ht := hok.train _ (List.getElem_mem hkl)
    have hl := gotTo_len m l k
    rw [gotF_succ hkl, ← ih]
    have e0 : gotTo m l (k + 1) = (gotTo m l k).set m.trains[k].shop.toNat ((gotTo m l k).getD m.trains[k].shop.toNat 0 + l.getD k 0) := by simp only [gotTo, List.getElem?_eq_getElem hkl]
    rw [e0]
    unfold gD
    by_cases e : m.trains[k].shop.toNat = s
    · subst e
      rw [getD_set (by omega), if_pos ⟨by omega, rfl⟩]
    · rw [getD_other e, if_neg (fun h => e h.2)]; omega
theorem usedF_app {m : Market} {l : List Int} {x : Int} {fro r : Nat} : ∀ k, k ≤ l.length → usedF m (l ++ [x]) fro r k = usedF m l fro r k
  | 0, _ => rfl
  | k + 1, h => by
    simp only [usedF]
    rw [usedF_app k (by omega)]
    congr 1
    have : gD (l ++ [x]) k = gD l k := by simp [gD, List.getD, List.getElem?_append_left (show k < l.length by omega)]
    rw [this]
theorem gotF_app {m : Market} {l : List Int} {x : Int} {fro r : Nat} : ∀ k, k ≤ l.length → gotF m (l ++ [x]) fro r k = gotF m l fro r k
  | 0, _ => rfl
  | k + 1, h => by
    simp only [gotF]
    rw [gotF_app k (by omega)]
    congr 1
    have : gD (l ++ [x]) k = gD l k := by simp [gD, List.getD, List.getElem?_append_left (show k < l.length by omega)]
    rw [this]
theorem gD_app {l : List Int} {x : Int} {k : Nat} (h : k < l.length) : gD (l ++ [x]) k = gD l k := by simp [gD, List.getD, List.getElem?_append_left h]
theorem gD_last {l : List Int} {x : Int} {k : Nat} (h : k = l.length) : gD (l ++ [x]) k = x := by subst h; simp [gD, List.getD]
/-- Any load is one. -/
theorem any_load {m : Market} (hok : m.Ok) {hands x : List Int} (hl : hands.length = m.rooms.length) (hh : ∀ z ∈ hands, 0 ≤ z ∧ z ≤ 200) : ∀ i, i ≤ m.trains.length →
    (∀ k (hk : k < m.trains.length), k < i → 0 ≤ gD (anyTo m hands x i).1 k ∧ gD (anyTo m hands x i).1 k ≤ m.trains[k].cap ∧ (leaves m m.trains[k] = false → gD (anyTo m hands x i).1 k = 0)) ∧ ∀ r, gD (anyTo m hands x i).2 r = gD hands r - usedF m (anyTo m hands x i).1 0 r i
  | 0, _ => ⟨fun k _ h => by omega, fun r => by simp [anyTo, usedF]⟩
  | i + 1, hi => by
    have hil : i < m.trains.length := by omega
    obtain ⟨h1, h2⟩ := any_load hok hl hh (x := x) i (by omega)
    obtain ⟨f1, f2, f3, f4⟩ := anyTo_fine hok hl hh (x := x) i (by omega)
    have ht := hok.train _ (List.getElem_mem hil)
    obtain ⟨n1, n2, n3, n4⟩ := anyN_in (m := m) (x := x) (t := m.trains[i]) f3 ⟨by omega, by omega⟩ i
    rw [anyTo_succ hil]
    refine ⟨fun k hk hki => ?_, fun r => ?_⟩
    · dsimp only
      by_cases e : k = i
      · subst e
        rw [gD_last f1.symm]
        exact ⟨n1, n2, n4⟩
      · rw [gD_app (by omega)]; exact h1 k hk (by omega)
    · dsimp only
      rw [subAt_put _ (by omega), usedF_succ hil, usedF_app i (by omega), gD_last f1.symm]
      unfold put
      by_cases e : r = m.trains[i].room.toNat
      · subst e; rw [if_pos rfl, if_pos ⟨by omega, rfl⟩, h2]; omega
      · rw [if_neg e, if_neg (fun h => e h.2.symm), h2]; omega
theorem any_is_load {m : Market} (hok : m.Ok) {hands x : List Int} (hl : hands.length = m.rooms.length) (hh : ∀ z ∈ hands, 0 ≤ z ∧ z ≤ 200) : Load m (gD hands) (anyTo m hands x m.trains.length).1 := by
  obtain ⟨h1, h2⟩ := any_load hok hl hh (x := x) _ (Nat.le_refl _)
  obtain ⟨f1, f2, f3, f4⟩ := anyTo_fine hok hl hh (x := x) _ (Nat.le_refl _)
  refine ⟨f1, fun k hk => h1 k hk hk, fun r => ?_⟩
  have := h2 r
  have h3 := getD_nn (fun z hz => (f3 z hz).1) r
  unfold gD at this ⊢
  omega
end Go.Rt.Sh
/- Plain laws of the shop layer: what shops prove; some of them. No conditions. -/
set_option linter.unusedSimpArgs false
set_option linter.unusedVariables false
namespace Go.Rt.Sh
theorem mod_small (b n : Nat) : b % 2 ^ n < 2 ^ n := Nat.mod_lt _ (Nat.two_pow_pos _)
theorem listL_small (b n : Nat) : listL b n = listL (b % 2 ^ n) n := (listL_mod b n n (Nat.le_refl _)).symm
/-- What a set lacks by what its shops get. -/
def lackN (m : Market) (got set : List Int) : Nat → Int
  | 0 => 0
  | i + 1 => lackN m got set i + ((wantsL m).getD (set.getD i 0).toNat 0 - min ((wantsL m).getD (set.getD i 0).toNat 0) (got.getD (set.getD i 0).toNat 0))
theorem lackN_succ {m : Market} {got set : List Int} {i : Nat} (hi : i < set.length) (h : set[i].toNat < m.shops.length) (hg : set[i].toNat < got.length) : lackN m got set (i + 1) = lackN m got set i + m.shops[set[i].toNat].want - min m.shops[set[i].toNat].want got[set[i].toNat] := by
  have h1 : (wantsL m).getD set[i].toNat 0 = m.shops[set[i].toNat].want := by rw [wantsL_get, List.getElem?_eq_getElem h]
  have h2 : got.getD set[i].toNat 0 = got[set[i].toNat] := by simp [List.getD, hg]
  have h3 : set.getD i 0 = set[i] := by simp [List.getD, hi]
  simp only [lackN, h3, h1, h2]; omega
theorem lackN_pre (m : Market) (got l : List Int) (z : Int) : ∀ i, i ≤ l.length → lackN m got (l ++ [z]) i = lackN m got l i
  | 0, _ => rfl
  | i + 1, h => by
    simp only [lackN]
    rw [lackN_pre m got l z i (by omega)]
    have : (l ++ [z]).getD i 0 = l.getD i 0 := by simp [List.getD, List.getElem?_append_left (show i < l.length by omega)]
    rw [this]
theorem lackN_sum (m : Market) (got : List Int) (b : Nat) : ∀ n, lackN m got (listL b n) (listL b n).length = sumN n (fun i => if bset b i then gD (wantsL m) i - min (gD (wantsL m) i) (gD got i) else 0)
  | 0 => rfl
  | n + 1 => by
    have ih := lackN_sum m got b n
    simp only [sumN]
    by_cases h : bit b n = 1
    · rw [listL_yes h, List.length_append, List.length_singleton]
      simp only [lackN]
      rw [lackN_pre _ _ _ _ _ (Nat.le_refl _), ih]
      have : (listL b n ++ [(n : Int)]).getD (listL b n).length 0 = n := by simp [List.getD]
      rw [this]
      simp [bset, h, gD]
    · rw [listL_no h, ih]; simp [bset, h]
theorem sumN_sub (f g : Nat → Int) : ∀ n, sumN n f - sumN n g = sumN n (fun i => f i - g i)
  | 0 => rfl
  | n + 1 => by simp only [sumN]; have := sumN_sub f g n; omega
theorem leastL_fine {m : Market} (hok : m.Ok) : (leastL m).length = m.rooms.length ∧ ∀ z ∈ leastL m, 0 ≤ z ∧ z ≤ 200 :=
  ⟨by simp [leastL], fun z hz => by obtain ⟨r, hr, rfl⟩ := List.mem_map.1 hz; have := hok.room r hr; omega⟩
theorem mostL_fine {m : Market} (hok : m.Ok) : (mostL m).length = m.rooms.length ∧ ∀ z ∈ mostL m, 0 ≤ z ∧ z ≤ 200 :=
  ⟨by simp [mostL], fun z hz => by obtain ⟨r, hr, rfl⟩ := List.mem_map.1 hz; have := hok.room r hr; omega⟩
theorem lack_load {m : Market} (hok : m.Ok) {hands l : List Int} (hl : Load m (gD hands) l) (c : Nat) : lackR m hands (wantsL m) (listL c m.shops.length) 0 ≤ lackN m (gotTo m l m.trains.length) (listL c m.shops.length) (listL c m.shops.length).length := by
  rw [lackR_lk hok, lackN_sum]
  have h1 := load_flow hok hl 0 (bset c) (gD hands) hl.rooms
  unfold lk
  have h2 : sumN m.shops.length (fun i => if bset c i then (wantsL m).getD i 0 else 0) - sumN m.shops.length (fun s => if bset c s then gotF m l 0 s m.trains.length else 0) ≤ sumN m.shops.length (fun i => if bset c i then gD (wantsL m) i - min (gD (wantsL m) i) (gD (gotTo m l m.trains.length) i) else 0) := by
    rw [sumN_sub]
    refine sumN_le _ fun s hs => ?_
    have := gotF_to hok l m.trains.length (Nat.le_refl _) s hs
    rw [this]
    show _ ≤ (if bset c s = true then gD (wantsL m) s - min (gD (wantsL m) s) (gotF m l 0 s m.trains.length) else 0)
    by_cases e : bset c s = true
    · simp only [if_pos e]; show gD (wantsL m) s - _ ≤ _; omega
    · simp only [if_neg e]; omega
  unfold gD at h1 h2
  unfold gD
  dsimp only at h1 h2 ⊢
  omega
structure ProvedF (m : Market) (b : Nat) (x : List Int) : Prop where
  ok : (canP m (listL b m.shops.length)).2 = 0
  iff : (canP m (listL b m.shops.length)).1 = 1 ↔ (proofP m (listL b m.shops.length)).2.2 = 9
  down : (proofP m (listL b m.shops.length)).2.2 ≠ 0 → proofP m (listL b m.shops.length) = ([], 0, 9)
  pos : (proofP m (listL b m.shops.length)).2.2 = 0 → 1 ≤ (proofP m (listL b m.shops.length)).2.1
  ri : (proofP m (listL b m.shops.length)).2.2 = 0 → rising m.shops.length (-1) (proofP m (listL b m.shops.length)).1 = true
  inn : (proofP m (listL b m.shops.length)).2.2 = 0 → ∀ z ∈ (proofP m (listL b m.shops.length)).1, hasI (listL b m.shops.length) z = true ∧ 0 ≤ z ∧ z < m.shops.length
  ge : (proofP m (listL b m.shops.length)).2.2 = 0 → (proofP m (listL b m.shops.length)).2.1 ≤ lackN m (gotTo m (anyTo m (leastL m) x m.trains.length).1 m.trains.length) (proofP m (listL b m.shops.length)).1 (proofP m (listL b m.shops.length)).1.length
theorem sub_has {c sub n : Nat} (hs : sub < 16) (hc : c < 16) (h : bitDiff c sub = 0) {z : Int} (hz : z ∈ listL c n) : hasI (listL sub n) z = true ∧ 0 ≤ z ∧ z < n := by
  have h1 := (hasI_listL c n z).1 (hasI_mem.2 hz)
  refine ⟨(hasI_listL sub n z).2 ⟨h1.1, h1.2.1, ?_⟩, h1.1, h1.2.1⟩
  have := (bset_sub hc hs).1 h z.toNat (by unfold bset; exact decide_eq_true h1.2.2)
  exact of_decide_eq_true this
theorem proved {m : Market} (h : (check m).2.2 = 0) (b : Nat) (x : List Int) : ProvedF m b x := by
  have hok := check_ok h
  have hls := hok.ls
  have hp := mod_small b m.shops.length
  have hp16 := pow_16 hls hp
  have ha := asked_list h hp
  have hnn := (leastL_fine hok).2
  rw [show b = b from rfl]
  have key : proofP m (listL b m.shops.length) = if (worstR m (leastL m) (wantsL m) (listL (b % 2 ^ m.shops.length) m.shops.length) 0).2 = 0 then ([], 0, 9) else ((worstR m (leastL m) (wantsL m) (listL (b % 2 ^ m.shops.length) m.shops.length) 0).1, (worstR m (leastL m) (wantsL m) (listL (b % 2 ^ m.shops.length) m.shops.length) 0).2, 0) := by
    rw [listL_small, ← proof_same]; unfold proofR; rw [ha, if_neg (by simp)]
  have kcan0 : ∀ r, canP m (listL (b % 2 ^ m.shops.length) m.shops.length) = r → canP m (listL b m.shops.length) = r := fun r hr => by rw [listL_small]; exact hr
  have kcan := kcan0 _ (can_list h hp)
  have hb := worst_best hok (leastL m) (wantsL m) hp 0 (by rw [lack_empty hok _ fun z hz => (hnn z hz).1]; omega)
  have hl := any_is_load hok (leastL_fine hok).1 hnn (x := x)
  have hw0 : servedR m (leastL m) (listL (b % 2 ^ m.shops.length) m.shops.length) = decide ((worstR m (leastL m) (wantsL m) (listL (b % 2 ^ m.shops.length) m.shops.length) 0).2 = 0) := rfl
  by_cases hw : (worstR m (leastL m) (wantsL m) (listL (b % 2 ^ m.shops.length) m.shops.length) 0).2 = 0
  · rw [if_pos hw] at key
    rw [hw0, decide_eq_true hw] at kcan
    refine ⟨by rw [kcan]; rfl, by rw [kcan, key]; simp, fun _ => key, ?_, ?_, ?_, ?_⟩ <;> (intro h0; rw [key] at h0; simp at h0)
  · rw [if_neg hw] at key
    rw [hw0, decide_eq_false hw] at kcan
    simp only [Bool.false_eq_true, if_false] at kcan
    rcases hb with ⟨e, _⟩ | ⟨l, ⟨c, hc, hcd, rfl⟩, e, h1, _⟩
    · rw [e] at hw; simp at hw
    · rw [e] at key
      have hc2 := sub_small m.shops.length (by omega) _ hp16 hp c hc hcd
      have hf : (canP m (listL b m.shops.length)).2 = 0 ∧ (canP m (listL b m.shops.length)).1 ≠ 1 := by
        rw [kcan]; split <;> simp
      refine ⟨hf.1, ⟨fun h9 => absurd h9 hf.2, fun h9 => by rw [key] at h9; simp at h9⟩, fun h0 => by rw [key] at h0; simp at h0, fun _ => by rw [key]; exact h1, fun _ => by rw [key]; exact list_rising _ (by omega) c hc hc2, fun _ z hz => ?_, fun _ => ?_⟩
      · rw [key] at hz
        rw [listL_small b]
        exact sub_has hp16 hc hcd hz
      · rw [key]; exact lack_load hok hl c
theorem proofP_bad {m : Market} {l : List Int} (h : (check m).2.2 ≠ 0) : (proofP m l).2.2 ≠ 0 := by
  have : someE m l ≠ 0 := by
    unfold someE enterE
    rw [if_pos (by rw [if_pos h]; exact h), if_pos h]; exact h
  unfold proofP; rw [if_pos this]; exact this
theorem canP_bad {m : Market} {l : List Int} (h : (check m).2.2 ≠ 0) : (canP m l).2 ≠ 0 := by
  have : someE m l ≠ 0 := by
    unfold someE enterE
    rw [if_pos (by rw [if_pos h]; exact h), if_pos h]; exact h
  unfold canP; rw [if_pos this]; exact this
/-! ### Some of them -/
def fewTo (l : List Int) (y : Nat) : Nat → List Int
  | 0 => []
  | i + 1 => if bit y i = 1 then fewTo l y i ++ [l.getD i 0] else fewTo l y i
theorem fewTo_yes {l : List Int} {y i : Nat} (hi : i < l.length) (h : bit y i = 1) : fewTo l y (i + 1) = fewTo l y i ++ [l[i]] := by simp [fewTo, h, List.getD, hi]
theorem fewTo_no {l : List Int} {y i : Nat} (h : ¬ bit y i = 1) : fewTo l y (i + 1) = fewTo l y i := by simp [fewTo, h]
theorem fewTo_len (l : List Int) (y : Nat) : ∀ i, (fewTo l y i).length ≤ i
  | 0 => by simp [fewTo]
  | i + 1 => by have := fewTo_len l y i; unfold fewTo; split <;> simp <;> omega
theorem fewTo_mod (l : List Int) (y : Nat) : ∀ i, i ≤ 4 → fewTo l (y % 2 ^ 4) i = fewTo l y i
  | 0, _ => rfl
  | i + 1, h => by simp only [fewTo]; rw [bit_mod (by omega), fewTo_mod l y i (by omega)]
theorem few_fin0 : ∀ n : Nat, n < 5 → ∀ a < 16, a < 2 ^ n → ((List.range 16).all fun y => decide (listL (someS (fewTo (listL a n) y (listL a n).length)) n = fewTo (listL a n) y (listL a n).length) && decide (someS (fewTo (listL a n) y (listL a n).length) < 2 ^ n) && decide (bitDiff (someS (fewTo (listL a n) y (listL a n).length)) a = 0)) = true := by decide +kernel
theorem few_fin (n : Nat) (hn : n < 5) (a : Nat) (ha : a < 16) (ha2 : a < 2 ^ n) (y : Nat) (hy : y < 16) : listL (someS (fewTo (listL a n) y (listL a n).length)) n = fewTo (listL a n) y (listL a n).length ∧ someS (fewTo (listL a n) y (listL a n).length) < 2 ^ n ∧ bitDiff (someS (fewTo (listL a n) y (listL a n).length)) a = 0 := by
  have := List.all_eq_true.1 (few_fin0 n hn a ha ha2) y (by simpa using hy)
  simp only [Bool.and_eq_true, decide_eq_true_eq] at this
  exact ⟨this.1.1, this.1.2, this.2⟩
theorem few_list {n : Nat} (hn : n ≤ 4) {a : Nat} (ha : a < 2 ^ n) (y : Nat) : ∃ c < 2 ^ n, fewTo (listL a n) y (listL a n).length = listL c n ∧ bitDiff c a = 0 := by
  have hl := listL_le a n
  have := few_fin n (by omega) a (pow_16 hn ha) ha (y % 2 ^ 4) (mod_small _ _)
  rw [fewTo_mod _ _ _ (by omega)] at this
  exact ⟨_, this.2.1, this.1.symm, this.2.2⟩
def fedTo (m : Market) (got : List Int) : Nat → List Int
  | 0 => []
  | i + 1 => if (wantsL m).getD i 0 ≤ got.getD i 0 then fedTo m got i ++ [(i : Int)] else fedTo m got i
theorem fedTo_len (m : Market) (got : List Int) : ∀ i, (fedTo m got i).length ≤ i
  | 0 => by simp [fedTo]
  | i + 1 => by have := fedTo_len m got i; unfold fedTo; split <;> simp <;> omega
theorem fed_at {m : Market} {got : List Int} {i : Nat} (hi : i < m.shops.length) (hg : i < got.length) : ((wantsL m).getD i 0 ≤ got.getD i 0) ↔ m.shops[i].want ≤ got[i] := by
  rw [wantsL_get, List.getElem?_eq_getElem hi]; simp [List.getD, hg]
theorem fedTo_yes {m : Market} {got : List Int} {i : Nat} (hi : i < m.shops.length) (hg : i < got.length) (h : m.shops[i].want ≤ got[i]) : fedTo m got (i + 1) = fedTo m got i ++ [(i : Int)] := by
  simp only [fedTo]; rw [if_pos ((fed_at hi hg).2 h)]
theorem fedTo_no {m : Market} {got : List Int} {i : Nat} (hi : i < m.shops.length) (hg : i < got.length) (h : ¬ m.shops[i].want ≤ got[i]) : fedTo m got (i + 1) = fedTo m got i := by
  simp only [fedTo]; rw [if_neg (fun h' => h ((fed_at hi hg).1 h'))]
theorem fed_list (m : Market) (got : List Int) {n : Nat} (hn : n ≤ 4) : ∃ c < 16, fedTo m got n = listL c n ∧ ∀ i < 4, bset c i = decide ((wantsL m).getD i 0 ≤ got.getD i 0) := by
  obtain ⟨c, hc, hcb⟩ : ∃ c < 16, ∀ i < 4, bset c i = decide ((wantsL m).getD i 0 ≤ got.getD i 0) := by
    have hb := bits4 (decide ((wantsL m).getD 0 0 ≤ got.getD 0 0)) (decide ((wantsL m).getD 1 0 ≤ got.getD 1 0)) (decide ((wantsL m).getD 2 0 ≤ got.getD 2 0)) (decide ((wantsL m).getD 3 0 ≤ got.getD 3 0))
    refine ⟨_, hb.1, fun i hi => ?_⟩
    rw [hb.2 i hi]
    have : i = 0 ∨ i = 1 ∨ i = 2 ∨ i = 3 := by omega
    rcases this with rfl | rfl | rfl | rfl <;> rfl
  refine ⟨c, hc, ?_, hcb⟩
  have key : ∀ k, k ≤ 4 → fedTo m got k = listL c k := by
    intro k
    induction k with
    | zero => intro _; rfl
    | succ k ih =>
      intro hk
      have h1 := hcb k (by omega)
      unfold bset at h1
      have h2 := decide_eq_decide.1 h1
      simp only [fedTo, listL]
      rw [ih (by omega)]
      by_cases h3 : (wantsL m).getD k 0 ≤ got.getD k 0
      · rw [if_pos h3, if_pos (h2.2 h3)]
      · rw [if_neg h3, if_neg (fun h => h3 (h2.1 h)), List.append_nil]
  exact key n hn
structure SomeF (m : Market) (b y : Nat) (x : List Int) : Prop where
  e1 : (canP m (listL b m.shops.length)).2 = 0
  e2 : (canP m (fewTo (listL b m.shops.length) y (listL b m.shops.length).length)).2 = 0
  must : (canP m (listL b m.shops.length)).1 = 1 → (canP m (fewTo (listL b m.shops.length) y (listL b m.shops.length).length)).1 = 1
  never : (canP m (fewTo (listL b m.shops.length) y (listL b m.shops.length).length)).1 = 2 → (canP m (listL b m.shops.length)).1 = 2
  e3 : (canP m (fedTo m (gotTo m (anyTo m (mostL m) x m.trains.length).1 m.trains.length) m.shops.length)).2 = 0
  fed : (canP m (fedTo m (gotTo m (anyTo m (mostL m) x m.trains.length).1 m.trains.length) m.shops.length)).1 ≠ 2
theorem served_sub {m : Market} (hok : m.Ok) {hands : List Int} (hh : ∀ z ∈ hands, 0 ≤ z) {a c : Nat} (ha : a < 2 ^ m.shops.length) (hc : c < 2 ^ m.shops.length) (hd : bitDiff c a = 0) (h : servedR m hands (listL a m.shops.length) = true) : servedR m hands (listL c m.shops.length) = true := by
  have hls := hok.ls
  unfold servedR at h ⊢
  rw [decide_eq_true_eq, served_iff hok _ hh ha] at h
  rw [decide_eq_true_eq, served_iff hok _ hh hc]
  have hsub := (bset_sub (pow_16 hls hc) (pow_16 hls ha)).1 hd
  exact fun s hs => h s fun i hi => hsub i (hs i hi)
theorem some_facts {m : Market} (h : (check m).2.2 = 0) (b y : Nat) (x : List Int) : SomeF m b y x := by
  have hok := check_ok h
  have hls := hok.ls
  have hp := mod_small b m.shops.length
  obtain ⟨c, hc, ec, hd⟩ := few_list hls hp y
  have kall0 : ∀ r, canP m (listL (b % 2 ^ m.shops.length) m.shops.length) = r → canP m (listL b m.shops.length) = r := fun r hr => by rw [listL_small]; exact hr
  have kall := kall0 _ (can_list h hp)
  have kfew0 : ∀ r, canP m (listL c m.shops.length) = r → canP m (fewTo (listL b m.shops.length) y (listL b m.shops.length).length) = r := fun r hr => by rw [listL_small, ec]; exact hr
  have kfew := kfew0 _ (can_list h hc)
  have hnl : ∀ z ∈ leastL m, 0 ≤ z := fun z hz => ((leastL_fine hok).2 z hz).1
  have hnm : ∀ z ∈ mostL m, 0 ≤ z := fun z hz => ((mostL_fine hok).2 z hz).1
  have s1 := served_sub hok hnl hp hc hd
  have s2 := served_sub hok hnm hp hc hd
  obtain ⟨d, hd16, ed, hdb⟩ := fed_list m (gotTo m (anyTo m (mostL m) x m.trains.length).1 m.trains.length) hls
  have hd2 := mod_small d m.shops.length
  have hl := any_is_load hok (mostL_fine hok).1 (mostL_fine hok).2 (x := x)
  have kfed0 : ∀ r, canP m (listL (d % 2 ^ m.shops.length) m.shops.length) = r → canP m (fedTo m (gotTo m (anyTo m (mostL m) x m.trains.length).1 m.trains.length) m.shops.length) = r := fun r hr => by rw [ed, listL_small d]; exact hr
  have kfed := kfed0 _ (can_list h hd2)
  have s3 : servedR m (mostL m) (listL (d % 2 ^ m.shops.length) m.shops.length) = true := by
    unfold servedR
    rw [decide_eq_true_eq, served_iff hok _ hnm hd2]
    refine load_serves hok hl 0 _ _ hl.rooms fun s hs hsb => ?_
    have h1 : bset d s = true := by
      unfold bset at hsb ⊢
      rw [bit_mod hs] at hsb; exact hsb
    rw [hdb s (by omega), decide_eq_true_eq] at h1
    rw [← gotF_to hok _ _ (Nat.le_refl _) s hs]
    exact h1
  refine ⟨?_, ?_, ?_, ?_, ?_, ?_⟩
  · rw [kall]; split <;> (try split) <;> rfl
  · rw [kfew]; split <;> (try split) <;> rfl
  · rw [kall, kfew]
    intro h1
    have : servedR m (leastL m) (listL (b % 2 ^ m.shops.length) m.shops.length) = true := by
      split at h1
      · assumption
      · split at h1 <;> cases h1
    rw [if_pos (s1 this)]
  · rw [kall, kfew]
    intro h1
    have hx : servedR m (leastL m) (listL c m.shops.length) = false ∧ servedR m (mostL m) (listL c m.shops.length) = false := by
      split at h1
      · cases h1
      · rename_i h2
        split at h1
        · rename_i h3; exact ⟨by simpa using h2, h3⟩
        · cases h1
    have y1 : servedR m (leastL m) (listL (b % 2 ^ m.shops.length) m.shops.length) = false := by
      cases e : servedR m (leastL m) (listL (b % 2 ^ m.shops.length) m.shops.length) with
      | false => rfl
      | true => rw [s1 e] at hx; exact absurd hx.1 (by decide)
    have y2 : servedR m (mostL m) (listL (b % 2 ^ m.shops.length) m.shops.length) = false := by
      cases e : servedR m (mostL m) (listL (b % 2 ^ m.shops.length) m.shops.length) with
      | false => rfl
      | true => rw [s2 e] at hx; exact absurd hx.2 (by decide)
    rw [if_neg (by simp [y1]), if_pos y2]
  · rw [kfed]; split <;> (try split) <;> rfl
  · rw [kfed, s3]; split <;> simp
end Go.Rt.Sh
namespace Go.Rt.Sh
theorem lackN_in {m : Market} (hok : m.Ok) {got set : List Int} (hg : ∀ z ∈ got, 0 ≤ z ∧ z ≤ 360) : ∀ i : Nat, 0 ≤ lackN m got set i ∧ lackN m got set i ≤ 60 * (i : Int)
  | 0 => by simp [lackN]
  | i + 1 => by
    have ih := lackN_in hok (set := set) hg i
    have h1 := getD_in (a := 0) (b := 360) (by omega) (by omega) hg (set.getD i 0).toNat
    have h2 := getD_in (a := 0) (b := 60) (by omega) (by omega) (fun z hz => by obtain ⟨r, hr, rfl⟩ := List.mem_map.1 hz; have := hok.shop r hr; omega) (l := wantsL m) (set.getD i 0).toNat
    simp only [lackN]
    omega
theorem got_any {m : Market} (hok : m.Ok) {hands x : List Int} (hl : hands.length = m.rooms.length) (hh : ∀ z ∈ hands, 0 ≤ z ∧ z ≤ 200) : (∀ z ∈ (anyTo m hands x m.trains.length).1, 0 ≤ z ∧ z ≤ 60) ∧ (anyTo m hands x m.trains.length).1.length = m.trains.length ∧ ∀ z ∈ gotTo m (anyTo m hands x m.trains.length).1 m.trains.length, 0 ≤ z ∧ z ≤ 360 := by
  obtain ⟨h1, _, _, h4⟩ := anyTo_fine hok hl hh (x := x) _ (Nat.le_refl _)
  refine ⟨h4, h1, fun z hz => ?_⟩
  have := gotTo_in (m := m) h4 _ z hz
  have := hok.lt
  omega
end Go.Rt.Sh
/- Plain laws of the shop layer: what Give gives serves all but those of Without, and comes first. No conditions. -/
set_option linter.unusedSimpArgs false
set_option linter.unusedVariables false
namespace Go.Rt.Sh
theorem usedF_congr {m : Market} {l l' : List Int} {fro r : Nat} : ∀ k, (∀ j < k, gD l j = gD l' j) → usedF m l fro r k = usedF m l' fro r k
  | 0, _ => rfl
  | k + 1, h => by simp only [usedF]; rw [usedF_congr k fun j hj => h j (by omega), h k (by omega)]
theorem gotF_congr {m : Market} {l l' : List Int} {fro r : Nat} : ∀ k, (∀ j < k, gD l j = gD l' j) → gotF m l fro r k = gotF m l' fro r k
  | 0, _ => rfl
  | k + 1, h => by simp only [gotF]; rw [gotF_congr k fun j hj => h j (by omega), h k (by omega)]
theorem usedF_low {m : Market} {l : List Int} {f r : Nat} : ∀ k, k ≤ f → usedF m l f r k = 0
  | 0, _ => rfl
  | k + 1, h => by
    simp only [usedF]; rw [usedF_low k (by omega)]
    cases m.trains[k]? with
    | none => rfl
    | some t => dsimp only; rw [if_neg (by omega)]; rfl
theorem gotF_low {m : Market} {l : List Int} {f r : Nat} : ∀ k, k ≤ f → gotF m l f r k = 0
  | 0, _ => rfl
  | k + 1, h => by
    simp only [gotF]; rw [gotF_low k (by omega)]
    cases m.trains[k]? with
    | none => rfl
    | some t => dsimp only; rw [if_neg (by omega)]; rfl
theorem usedF_split {m : Market} {l : List Int} {f r : Nat} : ∀ k, f ≤ k → usedF m l 0 r k = usedF m l 0 r f + usedF m l f r k
  | 0, h => by have : f = 0 := by omega
               subst this; simp [usedF]
  | k + 1, h => by
    by_cases e : f = k + 1
    · subst e; rw [usedF_low (k + 1) (Nat.le_refl _)]; omega
    · have ih := usedF_split (m := m) (l := l) (r := r) k (show f ≤ k by omega)
      simp only [usedF]; rw [ih]
      cases m.trains[k]? with
      | none => dsimp only; omega
      | some t =>
        dsimp only
        by_cases h2 : t.room.toNat = r
        · rw [if_pos ⟨by omega, h2⟩, if_pos ⟨by omega, h2⟩]; omega
        · rw [if_neg (fun h => h2 h.2), if_neg (fun h => h2 h.2)]; omega
theorem gotF_split {m : Market} {l : List Int} {f r : Nat} : ∀ k, f ≤ k → gotF m l 0 r k = gotF m l 0 r f + gotF m l f r k
  | 0, h => by have : f = 0 := by omega
               subst this; simp [gotF]
  | k + 1, h => by
    by_cases e : f = k + 1
    · subst e; rw [gotF_low (k + 1) (Nat.le_refl _)]; omega
    · have ih := gotF_split (m := m) (l := l) (r := r) k (show f ≤ k by omega)
      simp only [gotF]; rw [ih]
      cases m.trains[k]? with
      | none => dsimp only; omega
      | some t =>
        dsimp only
        by_cases h2 : t.shop.toNat = r
        · rw [if_pos ⟨by omega, h2⟩, if_pos ⟨by omega, h2⟩]; omega
        · rw [if_neg (fun h => h2 h.2), if_neg (fun h => h2 h.2)]; omega
theorem give_state {m : Market} (hok : m.Ok) {sub : Nat} (hs : sub < 2 ^ m.shops.length) (h : servedR m (leastL m) (listL sub m.shops.length) = true) : ∀ i, i ≤ m.trains.length →
    (∀ k (hk : k < m.trains.length), k < i → 0 ≤ gD (giveTo m (listL sub m.shops.length) i).1 k ∧ gD (giveTo m (listL sub m.shops.length) i).1 k ≤ m.trains[k].cap ∧ (leaves m m.trains[k] = false → gD (giveTo m (listL sub m.shops.length) i).1 k = 0) ∧ (bset sub m.trains[k].shop.toNat = false → gD (giveTo m (listL sub m.shops.length) i).1 k = 0)) ∧
    (∀ r, gD (giveTo m (listL sub m.shops.length) i).2.1 r = gD (leastL m) r - usedF m (giveTo m (listL sub m.shops.length) i).1 0 r i) ∧ (∀ s, gD (giveTo m (listL sub m.shops.length) i).2.2 s = gD (wantsL m) s - gotF m (giveTo m (listL sub m.shops.length) i).1 0 s i)
  | 0, _ => ⟨fun k _ h => by omega, fun r => by simp [giveTo, usedF], fun s => by simp [giveTo, gotF]⟩
  | i + 1, hi => by
    have hil : i < m.trains.length := by omega
    obtain ⟨h1, h2, h3⟩ := give_state hok hs h i (by omega)
    have hf := fine_to hok hs h i (by omega)
    have hlen := giveTo_len (m := m) (shops := listL sub m.shops.length) i (by omega)
    have ht := hok.train _ (List.getElem_mem hil)
    have hgl := goesS_iff hok (sub := sub) (List.getElem_mem hil)
    rw [giveTo_succ hil]
    dsimp only
    by_cases hg : goesS m (listL sub m.shops.length) m.trains[i] = true
    · obtain ⟨a1, a2, a3, a4, a5⟩ := nAt_spec hok hs hf hil hg
      obtain ⟨g1, g2⟩ := hgl.1 hg
      refine ⟨fun k hk hki => ?_, fun r => ?_, fun s => ?_⟩
      · by_cases e : k = i
        · subst e
          rw [gD_last hlen.symm]
          exact ⟨by omega, a3, fun hh => by rw [g1] at hh; (cases hh), fun hh => by rw [g2] at hh; cases hh⟩
        · rw [gD_app (by omega)]; exact h1 k hk (by omega)
      · unfold nextH
        rw [if_pos hg, subAt_put _ (by rw [hf.hl]; omega), usedF_succ hil, usedF_app i (by omega), gD_last hlen.symm]
        unfold put
        by_cases e : r = m.trains[i].room.toNat
        · subst e; rw [if_pos rfl, if_pos ⟨by omega, rfl⟩, h2]; omega
        · rw [if_neg e, if_neg (fun h => e h.2.symm), h2]; omega
      · unfold nextW
        rw [if_pos hg, subAt_put _ (by rw [hf.wl]; omega), gotF_succ hil, gotF_app i (by omega), gD_last hlen.symm]
        unfold put
        by_cases e : s = m.trains[i].shop.toNat
        · subst e; rw [if_pos rfl, if_pos ⟨by omega, rfl⟩, h3]; omega
        · rw [if_neg e, if_neg (fun h => e h.2.symm), h3]; omega
    · have e0 : nAt m (listL sub m.shops.length) (giveTo m (listL sub m.shops.length) i).2.1 (giveTo m (listL sub m.shops.length) i).2.2 i m.trains[i] = 0 := by unfold nAt; rw [if_neg hg]
      rw [e0]
      refine ⟨fun k hk hki => ?_, fun r => ?_, fun s => ?_⟩
      · by_cases e : k = i
        · subst e
          rw [gD_last hlen.symm]
          exact ⟨by omega, by simp; omega, fun _ => rfl, fun _ => rfl⟩
        · rw [gD_app (by omega)]; exact h1 k hk (by omega)
      · unfold nextH
        rw [if_neg hg, usedF_succ hil, usedF_app i (by omega), gD_last hlen.symm, h2]
        split <;> simp
      · unfold nextW
        rw [if_neg hg, gotF_succ hil, gotF_app i (by omega), gD_last hlen.symm, h3]
        split <;> simp
theorem others_has (l : List Int) : ∀ (n : Nat) (z : Int), hasI (othersTo l n) z = true ↔ (0 ≤ z ∧ z < n) ∧ hasI l z = false
  | 0, z => by simp [othersTo, hasI]; omega
  | n + 1, z => by
    have ih := others_has l n z
    unfold othersTo
    by_cases h : hasI l n = true
    · rw [if_pos h, ih]
      constructor
      · rintro ⟨h1, h2⟩; exact ⟨by omega, h2⟩
      · rintro ⟨h1, h2⟩
        refine ⟨?_, h2⟩
        by_cases e : z = n
        · subst e; rw [h] at h2; cases h2
        · omega
    · rw [if_neg h]
      have e1 : hasI (othersTo l n ++ [(n : Int)]) z = (hasI (othersTo l n) z || decide ((n : Int) = z)) := by simp [hasI, List.any_append]
      rw [e1, Bool.or_eq_true, ih, decide_eq_true_eq]
      constructor
      · rintro (⟨h1, h2⟩ | rfl)
        · exact ⟨by omega, h2⟩
        · exact ⟨by omega, by simpa using h⟩
      · rintro ⟨h1, h2⟩
        by_cases e : (n : Int) = z
        · exact .inr e
        · exact .inl ⟨by omega, h2⟩
theorem less_at_first : ∀ (a b : List Int), a.length = b.length → less a b = true → ∃ i, i < a.length ∧ (∀ j < i, gD a j = gD b j) ∧ gD a i < gD b i
  | [], [], _, h => by simp [less] at h
  | [], _ :: _, h, _ => by simp at h
  | _ :: _, [], h, _ => by simp at h
  | x :: a, y :: b, hl, h => by
    simp only [less] at h
    by_cases e : x = y
    · subst e
      rw [if_pos rfl] at h
      obtain ⟨i, h1, h2, h3⟩ := less_at_first a b (by simpa using hl) h
      refine ⟨i + 1, by simp; omega, fun j hj => ?_, h3⟩
      cases j with
      | zero => rfl
      | succ j => exact h2 j (by omega)
    · rw [if_neg e] at h
      exact ⟨0, by simp, fun j hj => by omega, by simpa [gD, List.getD] using h⟩
def wantW (m : Market) (s : Nat) : Int := if hasI (withoutL m) s then 0 else gD (wantsL m) s
structure ServedF (m : Market) (x : List Int) : Prop where
  gp : giveP m = (giveL m, 0)
  wp : withoutP m = (withoutL m, 0)
  ri : rising m.shops.length (-1) (withoutL m) = true
  load : Load m (gD (leastL m)) (giveL m)
  got : ∀ s < m.shops.length, gD (gotTo m (giveL m) m.trains.length) s = wantW m s
  first : ∀ other, Load m (gD (leastL m)) other → (∀ s < m.shops.length, gD (gotTo m other m.trains.length) s = wantW m s) → less other (giveL m) = false
theorem served_facts {m : Market} (h : (check m).2.2 = 0) (x : List Int) : ServedF m x := by
  have hok := check_ok h
  have hls := hok.ls
  have hne : ¬ ((check m).2.2 ≠ 0) := by simp [h]
  obtain ⟨w, hw, e, e1, hsub, hsv⟩ := without_sub hok
  have hgl := giveTo_giveL hok
  rw [e1] at hsv hgl
  generalize hS : giveSub (1 <<< m.shops.length - 1) (withoutL m) = sub at hsv hgl hsub e1
  have hT := give_state hok hsub hsv _ (Nat.le_refl _)
  have hlen := giveTo_len (m := m) (shops := listL sub m.shops.length) _ (Nat.le_refl _)
  have hfT := fine_to hok hsub hsv _ (Nat.le_refl _)
  have hb : ∀ s < m.shops.length, bset sub s = !hasI (withoutL m) s := by
    intro s hs
    have a1 := others_has (withoutL m) m.shops.length s
    rw [e1, hasI_listL] at a1
    cases hh : hasI (withoutL m) s with
    | false =>
      have := (a1.2 ⟨by omega, hh⟩).2.2
      unfold bset; simpa using this
    | true =>
      unfold bset
      rw [Bool.not_true, decide_eq_false_iff_not]
      intro h1
      have := (a1.1 ⟨by omega, by omega, by simpa using h1⟩).2
      rw [hh] at this; cases this
  have hload : Load m (gD (leastL m)) (giveL m) := by
    rw [← hgl]
    refine ⟨hlen, fun k hk => ?_, fun r => ?_⟩
    · have := hT.1 k hk hk; exact ⟨this.1, this.2.1, this.2.2.1⟩
    · have h1 := hT.2.1 r
      have h2 : 0 ≤ gD (giveTo m (listL sub m.shops.length) m.trains.length).2.1 r := getD_nn (fun z hz => (hfT.hn z hz).1) r
      omega
  refine ⟨by unfold giveP; rw [if_neg hne], by unfold withoutP; rw [if_neg hne], ?_, hload, ?_, ?_⟩
  · rw [e]; exact list_rising _ (by omega) w (pow_16 hls hw) hw
  · intro s hs
    rw [gotF_to hok _ _ (Nat.le_refl _) s hs, ← hgl]
    unfold wantW
    have hbs := hb s hs
    cases hh : hasI (withoutL m) s with
    | true =>
      rw [hh, Bool.not_true] at hbs
      rw [if_pos rfl]
      have key : ∀ k, k ≤ m.trains.length → gotF m (giveTo m (listL sub m.shops.length) m.trains.length).1 0 s k = 0 := by
        intro k
        induction k with
        | zero => intro _; rfl
        | succ k ih =>
          intro hk
          rw [gotF_succ (by omega), ih (by omega)]
          by_cases e2 : (m.trains[k]'(by omega)).shop.toNat = s
          · rw [if_pos ⟨by omega, e2⟩, (hT.1 k (by omega) (by omega)).2.2.2 (by rw [e2]; exact hbs)]; rfl
          · rw [if_neg (fun h => e2 h.2)]; rfl
      exact key _ (Nat.le_refl _)
    | false =>
      rw [hh, Bool.not_false] at hbs
      rw [if_neg (by simp)]
      have h3 := hT.2.2 s
      have hno := hfT.no (fun i => decide (i = s)) (fun i hi => by have : i = s := by simpa using hi
                                                                   subst this; exact hbs)
      have h4 : 0 ≤ gD (giveTo m (listL sub m.shops.length) m.trains.length).2.2 s := getD_nn (fun z hz => (hfT.wn z hz).1) s
      have h5 : gD (giveTo m (listL sub m.shops.length) m.trains.length).2.2 s ≤ 0 := by
        unfold lk at hno
        have ee : trs m m.trains.length = [] := by
          have : ∀ j, j ≤ m.trains.length → trsTo m m.trains.length j = [] := by
            intro j
            induction j with
            | zero => intro _; rfl
            | succ j ih =>
              intro hj
              unfold trsTo
              cases m.trains[j]? with
              | none => exact ih (by omega)
              | some t => dsimp only; rw [if_neg (by omega)]; exact ih (by omega)
          exact this _ (Nat.le_refl _)
        rw [ee] at hno
        have z1 : sumN m.rooms.length (fun r => min (gD (giveTo m (listL sub m.shops.length) m.trains.length).2.1 r) (capR [] (fun i => decide (i = s)) r)) = 0 := by
          rw [sumN_congr (g := fun _ => 0) _ fun r _ => by
            have := getD_nn (fun z hz => (hfT.hn z hz).1) r
            show min (gD _ r) 0 = 0
            unfold gD; omega]
          exact sumN_zero _
        have z2 : sumN m.shops.length (fun i => if (decide (i = s)) = true then gD (giveTo m (listL sub m.shops.length) m.trains.length).2.2 i else 0) = gD (giveTo m (listL sub m.shops.length) m.trains.length).2.2 s := by
          rw [← sumN_at' (k := s) (n := m.shops.length) (gD (giveTo m (listL sub m.shops.length) m.trains.length).2.2 s) hs]
          refine sumN_congr _ fun i _ => ?_
          by_cases e2 : i = s
          · subst e2; simp
          · simp [e2]
        rw [z1, z2] at hno
        omega
      omega
  · intro other hl hgo
    cases hlt : less other (giveL m) with
    | false => rfl
    | true =>
      exfalso
      obtain ⟨i, hi, hpre, hlt2⟩ := less_at_first other (giveL m) (by rw [hl.len, hload.len]) hlt
      rw [hl.len] at hi
      have ht := hok.train _ (List.getElem_mem hi)
      have hgr := giveTo_greedy (m := m) (shops := listL sub m.shops.length) (m.trains.length - (i + 1)) (i + 1) (by omega)
      have hgs := giveTo_succ (m := m) (shops := listL sub m.shops.length) hi
      have hleni := giveTo_len (m := m) (shops := listL sub m.shops.length) i (by omega)
      have hpre2 : ∀ j < i, gD other j = gD (giveTo m (listL sub m.shops.length) i).1 j := by
        intro j hj
        rw [hpre j hj, ← hgl, hgr, hgs]
        dsimp only
        rw [List.append_assoc]
        simp [gD, List.getD, List.getElem?_append_left (show j < (giveTo m (listL sub m.shops.length) i).1.length by omega)]
      have hat : gD (giveL m) i = nAt m (listL sub m.shops.length) (giveTo m (listL sub m.shops.length) i).2.1 (giveTo m (listL sub m.shops.length) i).2.2 i m.trains[i] := by
        rw [← hgl, hgr, hgs]
        dsimp only
        rw [List.append_assoc]
        simp [gD, List.getD, List.getElem?_append_right (show (giveTo m (listL sub m.shops.length) i).1.length ≤ i by omega), hleni]
      rw [hat] at hlt2
      obtain ⟨o1, o2, o3⟩ := hl.ok i hi
      obtain ⟨s1, s2, s3⟩ := give_state hok hsub hsv i (by omega)
      have hfi := fine_to hok hsub hsv i (by omega)
      have hg : goesS m (listL sub m.shops.length) m.trains[i] = true := by
        cases hg : goesS m (listL sub m.shops.length) m.trains[i] with
        | true => rfl
        | false =>
          have e0 : nAt m (listL sub m.shops.length) (giveTo m (listL sub m.shops.length) i).2.1 (giveTo m (listL sub m.shops.length) i).2.2 i m.trains[i] = 0 := by unfold nAt; rw [if_neg (by simp [hg])]
          rw [e0] at hlt2; simp at hlt2; omega
      obtain ⟨a1, a2, a3, a4, a5⟩ := nAt_spec hok hsub hfi hi hg
      obtain ⟨q, hq⟩ : ∃ q : Nat, gD other i = (q : Int) := ⟨(gD other i).toNat, by omega⟩
      rw [hq] at hlt2
      have hbad := a2 q (by omega)
      unfold okAt at hbad
      rw [decide_eq_false_iff_not, served_iff hok _ (fun z hz => (subAt_in hfi.hn (by omega) (by omega) z hz).1) hsub] at hbad
      apply hbad
      have hu : ∀ r, usedF m other 0 r i = usedF m (giveTo m (listL sub m.shops.length) i).1 0 r i := fun r => usedF_congr i hpre2
      have hgt : ∀ s, gotF m other 0 s i = gotF m (giveTo m (listL sub m.shops.length) i).1 0 s i := fun s => gotF_congr i hpre2
      refine load_serves hok hl (i + 1) _ _ (fun r => ?_) (fun s hs hss => ?_)
      · have r1 := hl.rooms r
        rw [usedF_split (f := i + 1) _ (by omega), usedF_succ hi, hu r, hq] at r1
        rw [subAt_put _ (by rw [hfi.hl]; omega)]
        have r2 := s2 r
        unfold put
        by_cases e2 : r = m.trains[i].room.toNat
        · subst e2; rw [if_pos ⟨by omega, rfl⟩] at r1; rw [if_pos rfl]; omega
        · rw [if_neg (fun h => e2 h.2.symm)] at r1; rw [if_neg e2]; omega
      · have g1 := hgo s hs
        rw [gotF_to hok _ _ (Nat.le_refl _) s hs, gotF_split (f := i + 1) _ (by omega), gotF_succ hi, hgt s, hq] at g1
        have hww : wantW m s = gD (wantsL m) s := by
          unfold wantW
          have := hb s hs
          rw [hss] at this
          have h2 : hasI (withoutL m) s = false := by simpa using this.symm
          rw [if_neg (by simp [h2])]
        rw [hww] at g1
        rw [subAt_put _ (by rw [hfi.wl]; omega)]
        have r2 := s3 s
        unfold put
        by_cases e2 : s = m.trains[i].shop.toNat
        · subst e2; rw [if_pos ⟨by omega, rfl⟩] at g1; rw [if_pos rfl]; omega
        · rw [if_neg (fun h => e2 h.2.symm)] at g1; rw [if_neg e2]; omega
theorem giveP_bad {m : Market} (h : (check m).2.2 ≠ 0) : giveP m = ([], (check m).2.2) := by unfold giveP; rw [if_pos h]
end Go.Rt.Sh
namespace Go.Rt.Sh
/-- What rooms have left of a load. -/
def leftTo (m : Market) (hands l : List Int) : Nat → List Int
  | 0 => hands
  | i + 1 => match m.trains[i]? with | some t => subAt (leftTo m hands l i) t.room.toNat (gD l i) | none => leftTo m hands l i
theorem leftTo_succ {m : Market} {hands l : List Int} {i : Nat} (hi : i < m.trains.length) : leftTo m hands l (i + 1) = subAt (leftTo m hands l i) m.trains[i].room.toNat (gD l i) := by simp only [leftTo, List.getElem?_eq_getElem hi]
theorem usedF_nn {m : Market} {h : Nat → Int} {l : List Int} (hl : Load m h l) (f r : Nat) : ∀ k, k ≤ m.trains.length → 0 ≤ usedF m l f r k
  | 0, _ => by simp [usedF]
  | k + 1, hk => by
    have ih := usedF_nn hl f r k (by omega)
    have := (hl.ok k (by omega)).1
    rw [usedF_succ (by omega)]; split <;> omega
theorem leftTo_fine {m : Market} (hok : m.Ok) {hands l : List Int} (hl : hands.length = m.rooms.length) (hh : ∀ z ∈ hands, 0 ≤ z ∧ z ≤ 200) (hld : Load m (gD hands) l) : ∀ i, i ≤ m.trains.length → (leftTo m hands l i).length = m.rooms.length ∧ (∀ r, gD (leftTo m hands l i) r = gD hands r - usedF m l 0 r i) ∧ ∀ z ∈ leftTo m hands l i, 0 ≤ z ∧ z ≤ 200
  | 0, _ => ⟨hl, fun r => by simp [leftTo, usedF], hh⟩
  | i + 1, hi => by
    have hil : i < m.trains.length := by omega
    obtain ⟨h1, h2, h3⟩ := leftTo_fine hok hl hh hld i (by omega)
    have ht := hok.train _ (List.getElem_mem hil)
    obtain ⟨o1, _, _⟩ := hld.ok i hil
    have hr := hld.rooms m.trains[i].room.toNat
    rw [usedF_split (f := i + 1) _ (by omega), usedF_succ hil, if_pos ⟨by omega, rfl⟩] at hr
    have hn := usedF_nn hld (i + 1) m.trains[i].room.toNat _ (Nat.le_refl _)
    have h2r := h2 m.trains[i].room.toNat
    rw [leftTo_succ hil]
    refine ⟨by rw [subAt_len]; exact h1, fun r => ?_, subAt_in h3 o1 (by omega)⟩
    rw [subAt_put _ (by omega), usedF_succ hil]
    unfold put
    by_cases e : r = m.trains[i].room.toNat
    · subst e; rw [if_pos rfl, if_pos ⟨by omega, rfl⟩]; omega
    · rw [if_neg e, if_neg (fun h => e h.2.symm), h2]; omega
theorem gD_get {l : List Int} {i : Nat} (h : i < l.length) : gD l i = l[i] := by simp [gD, List.getD, h]
theorem load_small {m : Market} (hok : m.Ok) {h : Nat → Int} {l : List Int} (hl : Load m h l) : ∀ z ∈ l, 0 ≤ z ∧ z ≤ 60 := by
  intro z hz
  obtain ⟨k, hk, rfl⟩ := List.getElem_of_mem hz
  have hk2 : k < m.trains.length := by rw [← hl.len]; exact hk
  obtain ⟨h1, h2, _⟩ := hl.ok k hk2
  have ht := hok.train _ (List.getElem_mem hk2)
  rw [gD_get hk] at h1 h2
  omega
end Go.Rt.Sh
/- Plain laws of the shop layer: what a late train costs. No conditions. -/
set_option linter.unusedSimpArgs false
set_option linter.unusedVariables false
namespace Go.Rt.Sh
theorem capR_append (A B : List Tr) (s : Nat → Bool) (r : Nat) : capR (A ++ B) s r = capR A s r + capR B s r := by
  induction A with
  | nil => simp [capR]
  | cons t A ih => rw [List.cons_append, capR_cons, capR_cons, ih]; omega
/-- One train more: no more is lacking, and less by at most what it can carry. -/
theorem lk_add {R S : Nat} {T T' : List Tr} {h w : Nat → Int} {s : Nat → Bool} {p : Nat} {c : Int} (hp : p < R) (hc : 0 ≤ c) (he : ∀ r, capR T' s r = capR T s r + if r = p then c else 0) : lk R S T' h w s ≤ lk R S T h w s ∧ lk R S T h w s ≤ lk R S T' h w s + c := by
  unfold lk
  have h1 : sumN R (fun r => min (h r) (capR T s r)) ≤ sumN R (fun r => min (h r) (capR T' s r)) := sumN_le R fun r _ => by
    rw [he r]; split <;> omega
  have h2 : sumN R (fun r => min (h r) (capR T' s r)) ≤ sumN R (fun r => min (h r) (capR T s r)) + c := by
    have h3 := sumN_at' (k := p) (n := R) c hp
    rw [← h3, sumN_add]
    refine sumN_le R fun r _ => ?_
    rw [he r]; split <;> omega
  omega
theorem best_ge {f : List Int → Int} {C : List Int → Prop} {s : List Int × Int} (h : Best f C s) {c : List Int} (hc : C c) : f c ≤ s.2 := by
  rcases h with ⟨e, a⟩ | ⟨l, _, e, _, a⟩
  · rw [e]; have := a c hc; show f c ≤ 0; omega
  · rw [e]; exact (a c hc).1
/-- If no set lacks more than so much more, the worst does not. -/
theorem worst_le {m m' : Market} (hok : m.Ok) (hok' : m'.Ok) (hn : m'.shops.length = m.shops.length) {h h' w w' : List Int} (hh : ∀ z ∈ h, 0 ≤ z) (hh' : ∀ z ∈ h', 0 ≤ z) {sub : Nat} (hs : sub < 2 ^ m.shops.length) {d : Int} (hd : 0 ≤ d)
    (hle : ∀ b, b < 16 → bitDiff b sub = 0 → lackR m' h' w' (listL b m.shops.length) 0 ≤ lackR m h w (listL b m.shops.length) 0 + d) : (worstR m' h' w' (listL sub m.shops.length) 0).2 ≤ (worstR m h w (listL sub m.shops.length) 0).2 + d := by
  have hb := worst_best hok h w hs 0 (by rw [lack_empty hok w hh]; omega)
  have hb' := worst_best hok' h' w' (sub := sub) (by rw [hn]; exact hs) 0 (by rw [lack_empty hok' w' hh']; omega)
  rw [hn] at hb'
  have hnn := worstR_nn m h w (listL sub m.shops.length) 0
  rcases hb' with ⟨e, _⟩ | ⟨l, ⟨b, hb16, hbd, rfl⟩, e, _, _⟩
  · rw [e]; show (0 : Int) ≤ _; omega
  · rw [e]
    have h1 := hle b hb16 hbd
    have h2 := best_ge hb (c := listL b m.shops.length) ⟨b, hb16, hbd, rfl⟩
    dsimp only at h2 ⊢
    omega
theorem trsTo_congr {m m' : Market} (hl : ∀ t, leaves m' t = leaves m t) (f : Nat) : ∀ k, (∀ j, f ≤ j → j < k → m'.trains[j]? = m.trains[j]?) → trsTo m' f k = trsTo m f k
  | 0, _ => rfl
  | k + 1, h => by
    have ih := trsTo_congr hl f k fun j h1 h2 => h j h1 (by omega)
    simp only [trsTo]
    by_cases hf : f ≤ k
    · rw [h k hf (by omega), ih]
      cases m.trains[k]? with
      | none => rfl
      | some t => dsimp only; rw [hl t]
    · rw [ih]
      have e1 : (match m'.trains[k]? with | some t => if f ≤ k ∧ leaves m' t = true then trsTo m f k ++ [toTr t] else trsTo m f k | none => trsTo m f k) = trsTo m f k := by
        cases m'.trains[k]? with
        | none => rfl
        | some t => dsimp only; rw [if_neg (fun h => hf h.1)]
      have e2 : (match m.trains[k]? with | some t => if f ≤ k ∧ leaves m t = true then trsTo m f k ++ [toTr t] else trsTo m f k | none => trsTo m f k) = trsTo m f k := by
        cases m.trains[k]? with
        | none => rfl
        | some t => dsimp only; rw [if_neg (fun h => hf h.1)]
      exact e1.trans e2.symm
theorem trsTo_split {m : Market} {i : Nat} : ∀ k, i ≤ k → trsTo m 0 k = trsTo m 0 i ++ trsTo m i k
  | 0, h => by
    have : i = 0 := by omega
    subst this; simp [trsTo]
  | k + 1, h => by
    by_cases e : i = k + 1
    · subst e
      have h0 : ∀ j, j ≤ k + 1 → trsTo m (k + 1) j = [] := by
        intro j
        induction j with
        | zero => intro _; rfl
        | succ j ih =>
          intro hj
          unfold trsTo
          cases m.trains[j]? with
          | none => exact ih (by omega)
          | some t => dsimp only; rw [if_neg (by omega)]; exact ih (by omega)
      rw [h0 _ (Nat.le_refl _), List.append_nil]
    · have ih := trsTo_split (m := m) k (show i ≤ k by omega)
      simp only [trsTo, ih]
      cases m.trains[k]? with
      | none => rfl
      | some t =>
        dsimp only
        by_cases hl : leaves m t = true
        · rw [if_pos ⟨by omega, hl⟩, if_pos ⟨by omega, hl⟩, List.append_assoc]
        · rw [if_neg (fun h => hl h.2), if_neg (fun h => hl h.2)]
theorem trs_at {m : Market} {i : Nat} (hi : i < m.trains.length) : trs m 0 = trsTo m 0 i ++ ((if leaves m m.trains[i] then [toTr m.trains[i]] else []) ++ trs m (i + 1)) := by
  unfold trs; rw [trsTo_split (i := i) _ (by omega)]
  have := trs_cons hi
  unfold trs at this
  rw [this]
theorem setLate_get? {l : List Train} {i : Nat} (hi : i < l.length) (j : Nat) (hj : j ≠ i) : (setLate l i)[j]? = l[j]? := by
  rw [setLate_set l i hi, List.getElem?_set]; simp [Ne.symm hj]
theorem lateM_at {m : Market} {i : Nat} (hi : i < m.trains.length) (hi2 : i < (lateM m i).trains.length) : (lateM m i).trains[i] = late m.trains[i] := by
  show (setLate m.trains i)[i]'hi2 = _
  simp only [setLate_set m.trains i hi, List.getElem_set_self]
def onceR (t : Train) (go : Bool) (s : Nat → Bool) (r : Nat) : Int := if go = true ∧ t.room.toNat = r ∧ s t.shop.toNat = true then t.cap else 0
theorem onceR_no (t : Train) (s : Nat → Bool) (r : Nat) : onceR t false s r = 0 := by simp [onceR]
theorem onceR_other {t : Train} (g : Bool) (s : Nat → Bool) {r : Nat} (h : ¬ r = t.room.toNat) : onceR t g s r = 0 := by unfold onceR; rw [if_neg (fun h' => h h'.2.1.symm)]
theorem onceR_yes {t : Train} {s : Nat → Bool} (h : s t.shop.toNat = true) : onceR t true s t.room.toNat = t.cap := by unfold onceR; rw [if_pos ⟨rfl, rfl, h⟩]
theorem late_caps {m : Market} {i : Nat} (hi : i < m.trains.length) (s : Nat → Bool) (r : Nat) :
    ∃ c, capR (trs m 0) s r = c + onceR m.trains[i] (leaves m m.trains[i]) s r ∧ capR (trs (lateM m i) 0) s r = c + onceR m.trains[i] (leaves m (late m.trains[i])) s r := by
  have hl : (lateM m i).trains.length = m.trains.length := setLate_len _ _
  have hi2 : i < (lateM m i).trains.length := by omega
  have e1 := trs_at hi
  have e2 := trs_at hi2
  rw [lateM_at hi hi2] at e2
  have e3 : trsTo (lateM m i) 0 i = trsTo m 0 i := trsTo_congr (m := m) (m' := lateM m i) (fun t => rfl) 0 i fun j _ hj => setLate_get? hi j (by omega)
  have e4 : trs (lateM m i) (i + 1) = trs m (i + 1) := by
    unfold trs; rw [hl]
    exact trsTo_congr (m := m) (m' := lateM m i) (fun t => rfl) (i + 1) _ fun j hj _ => setLate_get? hi j (by omega)
  rw [e3, e4] at e2
  refine ⟨capR (trsTo m 0 i) s r + capR (trs m (i + 1)) s r, ?_, ?_⟩
  · rw [e1, capR_append, capR_append]
    unfold onceR
    by_cases h : leaves m m.trains[i] = true
    · rw [if_pos h]
      simp only [capR_cons, h, true_and]
      show _ + ((if m.trains[i].room.toNat = r ∧ s m.trains[i].shop.toNat = true then m.trains[i].cap else 0) + 0 + _) = _
      omega
    · rw [if_neg h, if_neg (fun h' => h h'.1)]; show _ + (0 + _) = _; omega
  · rw [e2, capR_append, capR_append]
    unfold onceR
    have hlv : leaves (lateM m i) (late m.trains[i]) = leaves m (late m.trains[i]) := rfl
    rw [hlv]
    by_cases h : leaves m (late m.trains[i]) = true
    · rw [if_pos h]
      simp only [capR_cons, h, true_and]
      show _ + ((if m.trains[i].room.toNat = r ∧ s m.trains[i].shop.toNat = true then m.trains[i].cap else 0) + 0 + _) = _
      omega
    · rw [if_neg h, if_neg (fun h' => h h'.1)]; show _ + (0 + _) = _; omega
theorem lateM_rooms (m : Market) (i : Nat) : (lateM m i).rooms = m.rooms := rfl
theorem lateM_shops (m : Market) (i : Nat) : (lateM m i).shops = m.shops := rfl
/-- What sets lack if the train is late. -/
theorem lack_late {m : Market} (h : (check m).2.2 = 0) {i : Nat} (hi : i < m.trains.length) (hands wants : List Int) (b : Nat) :
    lackR (lateM m i) hands wants (listL b m.shops.length) 0 ≤ lackR m hands wants (listL b m.shops.length) 0 + m.trains[i].cap ∧
    (leaves m m.trains[i] = false ∨ leaves m m.trains[i] = leaves m (late m.trains[i]) → lackR (lateM m i) hands wants (listL b m.shops.length) 0 ≤ lackR m hands wants (listL b m.shops.length) 0) := by
  have hok := check_ok h
  have hokl := lateM_ok h i
  have ht := hok.train _ (List.getElem_mem hi)
  have e1 := lackR_lk hokl hands wants b 0
  rw [lateM_shops, lateM_rooms] at e1
  rw [e1, lackR_lk hok]
  have hcap := fun r => late_caps hi (bset b) r
  by_cases hcond : bset b m.trains[i].shop.toNat = true
  · cases hl : leaves m m.trains[i] <;> cases hl2 : leaves m (late m.trains[i])
    · have e : ∀ r, capR (trs (lateM m i) 0) (bset b) r = capR (trs m 0) (bset b) r := fun r => by
        obtain ⟨c, h1, h2⟩ := hcap r; rw [h1, h2, hl, hl2]
      unfold lk; simp only [e]; exact ⟨by omega, fun _ => Int.le_refl _⟩
    · have := (lk_add (R := m.rooms.length) (S := m.shops.length) (T := trs m 0) (T' := trs (lateM m i) 0) (h := fun r => hands.getD r 0) (w := fun i => wants.getD i 0) (s := bset b) (p := m.trains[i].room.toNat) (c := m.trains[i].cap) (by omega) (by omega) (fun r => by
        obtain ⟨c, h1, h2⟩ := hcap r
        rw [h1, h2, hl, hl2, onceR_no]
        by_cases e : r = m.trains[i].room.toNat
        · subst e; rw [onceR_yes hcond, if_pos rfl]; omega
        · rw [onceR_other _ _ e, if_neg e]; omega)).1
      exact ⟨by omega, fun _ => this⟩
    · have := (lk_add (R := m.rooms.length) (S := m.shops.length) (T := trs (lateM m i) 0) (T' := trs m 0) (h := fun r => hands.getD r 0) (w := fun i => wants.getD i 0) (s := bset b) (p := m.trains[i].room.toNat) (c := m.trains[i].cap) (by omega) (by omega) (fun r => by
        obtain ⟨c, h1, h2⟩ := hcap r
        rw [h1, h2, hl, hl2, onceR_no]
        by_cases e : r = m.trains[i].room.toNat
        · subst e; rw [onceR_yes hcond, if_pos rfl]; omega
        · rw [onceR_other _ _ e, if_neg e]; omega)).2
      exact ⟨this, fun h => by rcases h with h | h <;> cases h⟩
    · have e : ∀ r, capR (trs (lateM m i) 0) (bset b) r = capR (trs m 0) (bset b) r := fun r => by
        obtain ⟨c, h1, h2⟩ := hcap r; rw [h1, h2, hl, hl2]
      unfold lk; simp only [e]; exact ⟨by omega, fun _ => Int.le_refl _⟩
  · have e : ∀ r, capR (trs (lateM m i) 0) (bset b) r = capR (trs m 0) (bset b) r := fun r => by
      obtain ⟨c, h1, h2⟩ := hcap r; rw [h1, h2]; unfold onceR
      rw [if_neg (fun h => hcond h.2.2), if_neg (fun h => hcond h.2.2)]
    unfold lk; simp only [e]; exact ⟨by omega, fun _ => Int.le_refl _⟩
/-- What Proof of all shops says. -/
theorem proof_all {m : Market} (h : (check m).2.2 = 0) : (proofP m (allL' m)).2.1 = (worstR m (leastL m) (wantsL m) (allL' m) 0).2 ∧ ((proofP m (allL' m)).2.2 = 0 ∨ (proofP m (allL' m)).2.2 = 9) ∧ ((proofP m (allL' m)).2.2 = 9 ↔ (worstR m (leastL m) (wantsL m) (allL' m) 0).2 = 0) := by
  have hok := check_ok h
  have ha := all_list hok
  have hask : askedE m (allL' m) = 0 := by rw [ha.1]; exact asked_list h ha.2
  rw [← proof_same]
  unfold proofR
  rw [if_neg (by simp [hask])]
  by_cases hw : (worstR m (leastL m) (wantsL m) (allL' m) 0).2 = 0
  · rw [if_pos hw]; exact ⟨hw.symm, .inr rfl, by simp [hw]⟩
  · rw [if_neg hw]; exact ⟨rfl, .inl rfl, by simp [hw]⟩
structure LateF (m : Market) (i : Nat) (hi : i < m.trains.length) : Prop where
  e0 : (lateP m i).2 = 0
  nn : 0 ≤ (lateP m i).1
  cap : (lateP m i).1 ≤ m.trains[i].cap
  same : leaves m m.trains[i] = leaves m (late m.trains[i]) → (lateP m i).1 = 0
  stay : leaves m m.trains[i] = false → (lateP m i).1 = 0
  pf : (proofP m (allL' m)).2.2 = 0 ∨ (proofP m (allL' m)).2.2 = 9
  ps : (check (lateM m i)).2.2 = 0 → (proofP (lateM m i) (allL' m)).2.2 = 0 ∨ (proofP (lateM m i) (allL' m)).2.2 = 9
  eq : (check (lateM m i)).2.2 = 0 → (lateP m i).1 = max (0 : Int) ((proofP (lateM m i) (allL' m)).2.1 - (proofP m (allL' m)).2.1)
  b1 : 0 ≤ (proofP m (allL' m)).2.1 ∧ (proofP m (allL' m)).2.1 ≤ 100000
  b2 : (check (lateM m i)).2.2 = 0 → 0 ≤ (proofP (lateM m i) (allL' m)).2.1 ∧ (proofP (lateM m i) (allL' m)).2.1 ≤ 100000
theorem late_facts {m : Market} (h : (check m).2.2 = 0) {i : Nat} (hi : i < m.trains.length) : LateF m i hi := by
  have hok := check_ok h
  have hokl := lateM_ok h i
  have ht := hok.train _ (List.getElem_mem hi)
  have hee : enterE m m.trains.length [(i : Int)] = 0 := enterE_0 h (by simp [out]; omega)
  have hl : lateP m i = (max (0 : Int) ((worstR (lateM m i) (leastL m) (wantsL m) (allL' m) 0).2 - (worstR m (leastL m) (wantsL m) (allL' m) 0).2), 0) := by
    rw [← late_same, lateR_2 hee]; rfl
  have ha := all_list hok
  have hnn := fun z hz => ((leastL_fine hok).2 z hz).1
  have hle1 := worst_le hok hokl rfl (h := leastL m) (h' := leastL m) (w := wantsL m) (w' := wantsL m) hnn hnn ha.2 (d := m.trains[i].cap) (by omega) (fun b _ _ => (lack_late h hi (leastL m) (wantsL m) b).1)
  have hle2 : (leaves m m.trains[i] = false ∨ leaves m m.trains[i] = leaves m (late m.trains[i])) → (worstR (lateM m i) (leastL m) (wantsL m) (allL' m) 0).2 ≤ (worstR m (leastL m) (wantsL m) (allL' m) 0).2 := by
    intro hc
    have := worst_le hok hokl rfl (h := leastL m) (h' := leastL m) (w := wantsL m) (w' := wantsL m) hnn hnn ha.2 (d := 0) (by omega) (fun b _ _ => by have := (lack_late h hi (leastL m) (wantsL m) b).2 hc; omega)
    rw [← ha.1] at this
    omega
  rw [← ha.1] at hle1
  have hb1 := worstR_bound hok (leastL_in hok) (wantsL_in hok) (shops := allL' m) (by have := othersTo_len [] m.shops.length; have := hok.ls; unfold allL'; omega) 0
  have hb2 := worstR_bound hokl (hands := leastL m) (wants := wantsL m) (leastL_in hok) (wantsL_in hok) (shops := allL' m) (by have := othersTo_len [] m.shops.length; have := hok.ls; unfold allL'; omega) 0
  have p1 := proof_all h
  have p2 : (check (lateM m i)).2.2 = 0 → _ := fun hc => proof_all hc
  have ea : allL' (lateM m i) = allL' m := rfl
  have el : leastL (lateM m i) = leastL m := rfl
  have ew : wantsL (lateM m i) = wantsL m := rfl
  rw [ea, el, ew] at p2
  refine ⟨by rw [hl], by rw [hl]; dsimp only; omega, by rw [hl]; dsimp only; omega, fun hc => ?_, fun hc => ?_, p1.2.1, fun hc => (p2 hc).2.1, fun hc => ?_, by rw [p1.1]; exact hb1, fun hc => by rw [(p2 hc).1]; exact hb2⟩
  · have := hle2 (.inr hc); rw [hl]; dsimp only; omega
  · have := hle2 (.inl hc); rw [hl]; dsimp only; omega
  · rw [hl, (p2 hc).1, p1.1]
theorem lateP_bad {m : Market} {z : Int} (h : (check m).2.2 ≠ 0 ∨ m.trains.length = 0) : (lateP m z).2 ≠ 0 := by
  have he : enterE m m.trains.length [z] ≠ 0 := by
    by_cases h1 : (check m).2.2 = 0
    · have h2 : m.trains.length = 0 := by rcases h with h | h; exact absurd h1 h; exact h
      rw [enterE_2 h1 (by rw [h2]; simp [out]; omega)]; decide
    · rw [enterE_1 h1]; exact h1
  rw [lateP_1 he]; exact he
end Go.Rt.Sh
/- Plain laws of the shop layer: shops told the other way round. No conditions. -/
set_option linter.unusedSimpArgs false
set_option linter.unusedVariables false
namespace Go.Rt.Sh
def backT (n : Nat) (t : Train) : Train := { t with shop := (n : Int) - 1 - t.shop }
def backM (m : Market) : Market := ⟨m.rooms, m.shops.reverse, m.trains.map (backT m.shops.length)⟩
/-! ### It is a market -/
theorem failE_iff {α : Type} {err : List α → α → Int} {most : Int} {l : List α} : (failE err most l).2 = 0 ↔ (l.length : Int) ≤ most ∧ ∀ k (h : k < l.length), err (l.take k) l[k] = 0 := by
  constructor
  · exact failE_zero
  · rintro ⟨h1, h2⟩
    unfold failE
    rw [if_neg (by omega)]
    have key : ∀ (b r : List α) (i : Int), b ++ r = l → (firstE err b i r).2 = 0 := by
      intro b r
      induction r generalizing b with
      | nil => intro i _; rfl
      | cons x r ih =>
        intro i hb
        have h3 := h2 b.length (by rw [← hb]; simp)
        have e1 : l.take b.length = b := by rw [← hb]; simp
        have e2 : l[b.length]'(by rw [← hb]; simp) = x := by subst hb; simp
        rw [e1, e2] at h3
        unfold firstE
        rw [if_pos h3]
        exact ih (b ++ [x]) _ (by rw [← hb]; simp)
    exact key [] l 0 rfl
theorem shopE_iff {b : List Shop} {s : Shop} : shopE b s = 0 ↔ nmOk s.name = true ∧ has (b.map (·.name)) s.name = false ∧ shopOwn s = 0 := by
  unfold shopE nameE
  cases h1 : nmOk s.name <;> cases h2 : has (b.map (·.name)) s.name <;> simp
theorem has_false {l : List ByteArray} {s : ByteArray} : has l s = false ↔ s ∉ l := by
  unfold has
  rw [List.any_eq_false]
  constructor
  · intro h hm; have := h s hm; simp at this
  · intro h x hx; simp; rintro rfl; exact h hx
/-- What shops have to be, whatever their order. -/
theorem shops_fine {l : List Shop} : (failE shopE 4 l).2 = 0 ↔ (l.length : Int) ≤ 4 ∧ (∀ s ∈ l, nmOk s.name = true ∧ shopOwn s = 0) ∧ l.Pairwise (fun a b => a.name ≠ b.name) := by
  rw [failE_iff]
  constructor
  · rintro ⟨h1, h2⟩
    refine ⟨h1, fun s hs => ?_, ?_⟩
    · obtain ⟨k, hk, rfl⟩ := List.getElem_of_mem hs
      have := shopE_iff.1 (h2 k hk); exact ⟨this.1, this.2.2⟩
    · rw [List.pairwise_iff_getElem]
      intro i j hi hj hij
      have h3 := has_false.1 (shopE_iff.1 (h2 j hj)).2.1
      intro e
      apply h3
      rw [List.mem_map]
      exact ⟨l[i], List.mem_iff_getElem.2 ⟨i, by rw [List.length_take]; omega, by rw [List.getElem_take]⟩, e⟩
  · rintro ⟨h1, h2, h3⟩
    refine ⟨h1, fun k hk => shopE_iff.2 ⟨(h2 _ (List.getElem_mem hk)).1, has_false.2 ?_, (h2 _ (List.getElem_mem hk)).2⟩⟩
    intro hm
    obtain ⟨x, hx, e⟩ := List.mem_map.1 hm
    obtain ⟨i, hi, rfl⟩ := List.getElem_of_mem hx
    rw [List.length_take] at hi
    rw [List.getElem_take] at e
    exact (List.pairwise_iff_getElem.1 h3) i k (by omega) hk (by omega) e
theorem check_iff {m : Market} : (check m).2.2 = 0 ↔ (failE roomE 3 m.rooms).2 = 0 ∧ (failE shopE 4 m.shops).2 = 0 ∧ (failE (trainE m) 6 m.trains).2 = 0 := by
  constructor
  · exact check_parts
  · rintro ⟨h1, h2, h3⟩
    unfold check
    rw [if_neg (by simp [h1]), if_neg (by simp [h2]), if_neg (by simp [h3])]
theorem trainE_iff {m : Market} {b : List Train} {t : Train} : trainE m b t = 0 ↔ (0 ≤ t.room ∧ t.room < m.rooms.length ∧ 0 ≤ t.shop ∧ t.shop < m.shops.length) ∧ 0 ≤ t.days ∧ t.days ≤ 5 ∧ 1 ≤ t.cap ∧ t.cap ≤ 60 := by
  constructor
  · intro h; have := trainE_zero h; omega
  · intro h
    unfold trainE out
    rw [if_neg (by simp; omega), if_neg (by simp; omega)]
theorem back_check {m : Market} (h : (check m).2.2 = 0) : (check (backM m)).2.2 = 0 := by
  obtain ⟨h1, h2, h3⟩ := check_iff.1 h
  refine check_iff.2 ⟨h1, ?_, ?_⟩
  · rw [shops_fine] at h2 ⊢
    refine ⟨by show ((m.shops.reverse).length : Int) ≤ 4; rw [List.length_reverse]; exact h2.1, fun s hs => h2.2.1 s (List.mem_reverse.1 hs), ?_⟩
    show (m.shops.reverse).Pairwise _
    rw [List.pairwise_reverse]
    exact h2.2.2.imp fun h => Ne.symm h
  · rw [failE_iff] at h3 ⊢
    refine ⟨by show ((m.trains.map _).length : Int) ≤ 6; rw [List.length_map]; exact h3.1, fun k hk => ?_⟩
    have hk2 : k < m.trains.length := by simpa [backM] using hk
    have := trainE_iff.1 (h3.2 k hk2)
    have e : (backM m).trains[k] = backT m.shops.length m.trains[k] := by show (m.trains.map _)[k]'(by simpa using hk2) = _; rw [List.getElem_map]
    rw [e]
    refine trainE_iff.2 ?_
    show (0 ≤ m.trains[k].room ∧ m.trains[k].room < m.rooms.length ∧ 0 ≤ (m.shops.length : Int) - 1 - m.trains[k].shop ∧ (m.shops.length : Int) - 1 - m.trains[k].shop < ((m.shops.reverse).length : Int)) ∧ 0 ≤ m.trains[k].days ∧ m.trains[k].days ≤ 5 ∧ 1 ≤ m.trains[k].cap ∧ m.trains[k].cap ≤ 60
    rw [List.length_reverse]
    omega
theorem back_leaves {m : Market} {t : Train} (h : 0 ≤ t.shop ∧ t.shop < m.shops.length) : leaves (backM m) (backT m.shops.length t) = leaves m t := by
  unfold leaves
  show (match m.rooms[t.room.toNat]?, (m.shops.reverse)[((m.shops.length : Int) - 1 - t.shop).toNat]? with | some r, some s => !out r.fro r.las (s.day - t.days) | _, _ => false) = _
  rw [List.getElem?_reverse (by omega)]
  have : m.shops.length - 1 - ((m.shops.length : Int) - 1 - t.shop).toNat = t.shop.toNat := by omega
  rw [this]
  cases m.rooms[t.room.toNat]? <;> cases m.shops[t.shop.toNat]? <;> rfl
/-! ### What sets lack -/
def revB (n b : Nat) : Nat := (List.range n).foldl (fun s i => s + bit b (n - 1 - i) * 2 ^ i) 0
theorem rev_fin : ∀ n : Nat, n < 5 → ∀ b < 16, b < 2 ^ n → ((decide (revB n b < 2 ^ n) && (List.range n).all fun i => bset (revB n b) i == bset b (n - 1 - i)) && decide (revB n (revB n b) = b) && decide ((listL (revB n b) n).length = (listL b n).length) && decide (revB n (bitDiff (1 <<< n - 1) b) = bitDiff (1 <<< n - 1) (revB n b)) && decide (revB n (1 <<< n - 1) = 1 <<< n - 1)) = true := by decide +kernel
theorem rev_sub0 : ∀ n : Nat, n < 5 → ∀ s < 16, s < 2 ^ n → ((List.range 16).all fun b => !decide (bitDiff b s = 0) || decide (bitDiff (revB n b) (revB n s) = 0)) = true := by decide +kernel
structure RevF (n b : Nat) : Prop where
  lt : revB n b < 2 ^ n
  at_ : ∀ i < n, bset (revB n b) i = bset b (n - 1 - i)
  inv : revB n (revB n b) = b
  len : (listL (revB n b) n).length = (listL b n).length
  comp : revB n (bitDiff (1 <<< n - 1) b) = bitDiff (1 <<< n - 1) (revB n b)
  all : revB n (1 <<< n - 1) = 1 <<< n - 1
theorem rev_facts {n b : Nat} (hn : n ≤ 4) (hb : b < 2 ^ n) : RevF n b := by
  have := rev_fin n (by omega) b (pow_16 hn hb) hb
  simp only [Bool.and_eq_true, decide_eq_true_eq, List.all_eq_true, List.mem_range, beq_iff_eq] at this
  exact ⟨this.1.1.1.1.1, this.1.1.1.1.2, this.1.1.1.2, this.1.1.2, this.1.2, this.2⟩
theorem rev_sub {n b s : Nat} (hn : n ≤ 4) (hs : s < 2 ^ n) (hb : b < 16) (h : bitDiff b s = 0) : bitDiff (revB n b) (revB n s) = 0 := by
  have := List.all_eq_true.1 (rev_sub0 n (by omega) s (pow_16 hn hs) hs) b (by simpa using hb)
  simpa [h] using this
theorem sumN_head (f : Nat → Int) : ∀ n, sumN (n + 1) f = f 0 + sumN n (fun i => f (i + 1))
  | 0 => by simp [sumN]
  | n + 1 => by
    have ih := sumN_head f n
    simp only [sumN] at ih ⊢
    omega
theorem sumN_rev (f : Nat → Int) : ∀ n, sumN n f = sumN n (fun i => f (n - 1 - i))
  | 0 => rfl
  | n + 1 => by
    rw [sumN_head (fun i => f (n + 1 - 1 - i)) n]
    simp only [sumN]
    rw [sumN_rev f n]
    have : sumN n (fun i => f (n - 1 - i)) = sumN n (fun i => f (n + 1 - 1 - (i + 1))) := sumN_congr n fun i _ => by congr 1; omega
    rw [this]
    have e : n + 1 - 1 - 0 = n := by omega
    rw [e]; omega
theorem back_trs {m : Market} (hok : m.Ok) : ∀ k, k ≤ m.trains.length → trsTo (backM m) 0 k = (trsTo m 0 k).map fun t => { t with shop := m.shops.length - 1 - t.shop }
  | 0, _ => rfl
  | k + 1, hk => by
    have ih := back_trs hok k (by omega)
    have hkl : k < m.trains.length := by omega
    have ht := hok.train _ (List.getElem_mem hkl)
    have e : (backM m).trains[k]? = some (backT m.shops.length m.trains[k]) := by show (m.trains.map _)[k]? = _; rw [List.getElem?_map, List.getElem?_eq_getElem hkl]; rfl
    simp only [trsTo, e, List.getElem?_eq_getElem hkl]
    rw [back_leaves ⟨by omega, by omega⟩, ih]
    split
    · rw [List.map_append]
      congr 1
      simp only [List.map_cons, List.map_nil, toTr, backT]
      congr 2
      omega
    · rfl
theorem capR_map {n : Nat} (T : List Tr) (s : Nat → Bool) (r : Nat) : capR (T.map fun t => { t with shop := n - 1 - t.shop }) s r = capR T (fun i => s (n - 1 - i)) r := by
  induction T with
  | nil => rfl
  | cons t T ih => rw [List.map_cons, capR_cons, capR_cons, ih]
theorem back_wants (m : Market) (i : Nat) (hi : i < m.shops.length) : (wantsL (backM m)).getD i 0 = (wantsL m).getD (m.shops.length - 1 - i) 0 := by
  rw [wantsL_get, wantsL_get]
  show (match (m.shops.reverse)[i]? with | some x => x.want | none => 0) = _
  rw [List.getElem?_reverse hi]
  cases m.shops[m.shops.length - 1 - i]? <;> rfl
theorem back_ok {m : Market} (hok : m.Ok) : (backM m).Ok := by
  refine ⟨hok.lr, by show (m.shops.reverse).length ≤ 4; rw [List.length_reverse]; exact hok.ls, by show (m.trains.map _).length ≤ 6; rw [List.length_map]; exact hok.lt, hok.room, fun s hs => hok.shop s (List.mem_reverse.1 hs), fun t ht => ?_⟩
  obtain ⟨t', h1, rfl⟩ := List.mem_map.1 (show t ∈ m.trains.map (backT m.shops.length) from ht)
  have h2 := hok.train t' h1
  show 0 ≤ t'.room ∧ t'.room < m.rooms.length ∧ 0 ≤ (m.shops.length : Int) - 1 - t'.shop ∧ (m.shops.length : Int) - 1 - t'.shop < ((m.shops.reverse).length : Int) ∧ 0 ≤ t'.days ∧ t'.days ≤ 6 ∧ 1 ≤ t'.cap ∧ t'.cap ≤ 60
  rw [List.length_reverse]
  omega
theorem back_lack {m : Market} (hok : m.Ok) (hands : List Int) {b : Nat} (hb : b < 2 ^ m.shops.length) : lackR (backM m) hands (wantsL (backM m)) (listL b m.shops.length) 0 = lackR m hands (wantsL m) (listL (revB m.shops.length b) m.shops.length) 0 := by
  have hokb := back_ok hok
  have hls := hok.ls
  have hr := rev_facts hls hb
  have hn : (backM m).shops.length = m.shops.length := List.length_reverse
  have hrm : (backM m).rooms.length = m.rooms.length := rfl
  have htl : (backM m).trains.length = m.trains.length := List.length_map _
  have e1 := lackR_lk hokb hands (wantsL (backM m)) b 0
  rw [hn, hrm] at e1
  rw [e1, lackR_lk hok]
  unfold lk
  have et : trs (backM m) 0 = (trs m 0).map fun t => { t with shop := m.shops.length - 1 - t.shop } := by
    unfold trs; rw [htl]; exact back_trs hok _ (Nat.le_refl _)
  have s1 : sumN m.shops.length (fun i => if bset b i then (wantsL (backM m)).getD i 0 else 0) = sumN m.shops.length (fun i => if bset (revB m.shops.length b) i then (wantsL m).getD i 0 else 0) := by
    rw [sumN_rev]
    refine sumN_congr _ fun i hi => ?_
    rw [hr.at_ i hi, back_wants m _ (by omega), show m.shops.length - 1 - (m.shops.length - 1 - i) = i by omega]
  have s2 : sumN m.rooms.length (fun r => min (hands.getD r 0) (capR (trs (backM m) 0) (bset b) r)) = sumN m.rooms.length (fun r => min (hands.getD r 0) (capR (trs m 0) (bset (revB m.shops.length b)) r)) := by
    refine sumN_congr _ fun r _ => ?_
    rw [et, capR_map]
    congr 1
    refine capR_congr fun t ht => ?_
    exact (hr.at_ _ (trs_fine hok ht).2.1).symm
  rw [s1, s2]
theorem back_worst_le {m m' : Market} (hok : m.Ok) (hok' : m'.Ok) (hn : m'.shops.length = m.shops.length) {h h' w w' : List Int} (hh : ∀ z ∈ h, 0 ≤ z) (hh' : ∀ z ∈ h', 0 ≤ z) {sub sub' : Nat} (hs : sub < 2 ^ m.shops.length) (hs' : sub' < 2 ^ m.shops.length)
    (hle : ∀ b, b < 16 → bitDiff b sub' = 0 → ∃ c, c < 16 ∧ bitDiff c sub = 0 ∧ lackR m' h' w' (listL b m.shops.length) 0 ≤ lackR m h w (listL c m.shops.length) 0) : (worstR m' h' w' (listL sub' m.shops.length) 0).2 ≤ (worstR m h w (listL sub m.shops.length) 0).2 := by
  have hb := worst_best hok h w hs 0 (by rw [lack_empty hok w hh]; omega)
  have hb' := worst_best hok' h' w' (sub := sub') (by rw [hn]; exact hs') 0 (by rw [lack_empty hok' w' hh']; omega)
  rw [hn] at hb'
  have hnn := worstR_nn m h w (listL sub m.shops.length) 0
  rcases hb' with ⟨e, _⟩ | ⟨l, ⟨b, hb16, hbd, rfl⟩, e, _, _⟩
  · rw [e]; exact hnn
  · rw [e]
    obtain ⟨c, hc16, hcd, h1⟩ := hle b hb16 hbd
    have h2 := best_ge hb (c := listL c m.shops.length) ⟨c, hc16, hcd, rfl⟩
    dsimp only at h2 ⊢
    omega
theorem back_worst {m : Market} (hok : m.Ok) {hands : List Int} (hh : ∀ z ∈ hands, 0 ≤ z) {sub : Nat} (hs : sub < 2 ^ m.shops.length) : (worstR (backM m) hands (wantsL (backM m)) (listL sub m.shops.length) 0).2 = (worstR m hands (wantsL m) (listL (revB m.shops.length sub) m.shops.length) 0).2 := by
  have hokb := back_ok hok
  have hls := hok.ls
  have hn : (backM m).shops.length = m.shops.length := List.length_reverse
  have hrs := rev_facts hls hs
  have l1 := back_worst_le hok hokb hn (w := wantsL m) (w' := wantsL (backM m)) hh hh hrs.lt hs (fun b hb hd => by
    have hb2 := sub_small m.shops.length (by omega) sub (pow_16 hls hs) hs b hb hd
    have hr := rev_facts hls hb2
    exact ⟨_, pow_16 hls hr.lt, rev_sub hls hs hb hd, Int.le_of_eq (back_lack hok hands hb2)⟩)
  have l2 := back_worst_le hokb hok hn.symm (w := wantsL (backM m)) (w' := wantsL m) hh hh (sub := sub) (sub' := revB m.shops.length sub) (by rw [hn]; exact hs) (by rw [hn]; exact hrs.lt) (fun b hb hd => by
    have hb2 := sub_small m.shops.length (by omega) _ (pow_16 hls hrs.lt) hrs.lt b hb hd
    have hr := rev_facts hls hb2
    refine ⟨_, pow_16 hls hr.lt, by have := rev_sub hls hrs.lt hb hd; rwa [hrs.inv] at this, ?_⟩
    rw [hn]
    have := back_lack hok hands hr.lt
    rw [hr.inv] at this
    exact Int.le_of_eq this.symm)
  rw [hn] at l2
  omega
theorem back_served {m : Market} (hok : m.Ok) {hands : List Int} (hh : ∀ z ∈ hands, 0 ≤ z) {sub : Nat} (hs : sub < 2 ^ m.shops.length) : servedR (backM m) hands (listL sub m.shops.length) = servedR m hands (listL (revB m.shops.length sub) m.shops.length) := by
  unfold servedR; rw [back_worst hok hh hs]
structure OrderF (m : Market) : Prop where
  len : (withoutP m).1.length = (withoutP (backM m)).1.length
  e : (withoutP m).2 = (withoutP (backM m)).2
  more : ∀ z, moreP m z = moreP (backM m) z
  late : ∀ z, lateP m z = lateP (backM m) z
  goes : goesP m = goesP (backM m)
theorem before_len {a b : List Int} (h : a = b ∨ before a b = true) : a.length ≤ b.length := by
  rcases h with rfl | h
  · exact Nat.le_refl _
  · unfold before at h
    simp only [Bool.or_eq_true, Bool.and_eq_true, decide_eq_true_eq] at h
    omega
theorem back_without_le {m : Market} (h : (check m).2.2 = 0) : (withoutL (backM m)).length ≤ (withoutL m).length ∧ (withoutL m).length ≤ (withoutL (backM m)).length := by
  have hok := check_ok h
  have hokb := check_ok (back_check h)
  have hls := hok.ls
  have hn : (backM m).shops.length = m.shops.length := List.length_reverse
  have hnn : ∀ z ∈ leastL m, 0 ≤ z := fun z hz => ((leastL_fine hok).2 z hz).1
  have hlb : leastL (backM m) = leastL m := rfl
  have hfin := others_nil m.shops.length (by omega)
  have hmm := withoutL_min hok
  have hmb := withoutL_min hokb
  rw [hn] at hmb
  have key : ∀ b, b < 2 ^ m.shops.length → (othersOk (backM m) (listL b m.shops.length) ↔ othersOk m (listL (revB m.shops.length b) m.shops.length)) := by
    intro b hb
    have hr := rev_facts hls hb
    have o1 := others_list m.shops.length (by omega) b (pow_16 hls hb) hb
    have o2 := others_list m.shops.length (by omega) _ (pow_16 hls hr.lt) hr.lt
    unfold othersOk
    rw [hn, o1.1, o2.1, hlb, back_served hok hnn o1.2, hr.comp]
  have inn : ∀ b, b < 2 ^ m.shops.length → listL b m.shops.length ∈ setsL (othersTo [] m.shops.length) := fun b hb => by
    rw [hfin.1]; exact sets_all m.shops.length (by omega) _ hfin.2.2.2.1 hfin.2.1 b (pow_16 hls hb) ((diff_all m.shops.length (by omega) b (pow_16 hls hb)).2 hb)
  obtain ⟨w, hw, ew, _, _, _⟩ := without_sub hok
  obtain ⟨v, hv, ev, _, _, _⟩ := without_sub hokb
  rw [hn] at hv ev
  constructor
  · have hr := rev_facts hls hw
    have ho : othersOk (backM m) (listL (revB m.shops.length w) m.shops.length) := by rw [key _ hr.lt, hr.inv, ← ew]; exact hmm.2.1
    have := before_len ((hmb.2.2 _ (inn _ hr.lt) ho).imp Eq.symm id)
    rw [hr.len, ← ew] at this; exact this
  · have hr := rev_facts hls hv
    have ho : othersOk m (listL (revB m.shops.length v) m.shops.length) := by rw [← key _ hv, ← ev]; exact hmb.2.1
    have := before_len ((hmm.2.2 _ (inn _ hr.lt) ho).imp Eq.symm id)
    rw [hr.len, ← ev] at this; exact this
theorem back_late (m : Market) (i : Nat) : lateM (backM m) i = backM (lateM m i) := by
  have : ∀ (l : List Train) (i n : Nat), setLate (l.map (backT n)) i = (setLate l i).map (backT n) := by
    intro l
    induction l with
    | nil => intro i n; rfl
    | cons t l ih =>
      intro i n
      cases i with
      | zero => rfl
      | succ i => simp [setLate, ih]
  show (⟨m.rooms, m.shops.reverse, setLate (m.trains.map (backT m.shops.length)) i⟩ : Market) = ⟨m.rooms, m.shops.reverse, (setLate m.trains i).map (backT m.shops.length)⟩
  rw [this]
theorem order_facts {m : Market} (h : (check m).2.2 = 0) : OrderF m := by
  have hok := check_ok h
  have hb := back_check h
  have hls := hok.ls
  have hn : (backM m).shops.length = m.shops.length := List.length_reverse
  have hnn : ∀ z ∈ leastL m, 0 ≤ z := fun z hz => ((leastL_fine hok).2 z hz).1
  have hnm : ¬ ((check m).2.2 ≠ 0) := by simp [h]
  have hnb : ¬ ((check (backM m)).2.2 ≠ 0) := by simp [hb]
  have wm : withoutP m = (withoutL m, 0) := by unfold withoutP; rw [if_neg hnm]
  have wb : withoutP (backM m) = (withoutL (backM m), 0) := by unfold withoutP; rw [if_neg hnb]
  have hw := back_without_le h
  have ha := all_list hok
  have hal : allL' (backM m) = allL' m := by unfold allL'; rw [hn]
  have hra := rev_facts hls ha.2
  have hee : ∀ (n : Int) (l : List Int), enterE (backM m) n l = enterE m n l := fun n l => by unfold enterE; rw [if_neg hnb, if_neg hnm]
  have hwa := back_worst hok hnn ha.2
  rw [hra.all, ← ha.1] at hwa
  have hlate : ∀ i, i < m.trains.length → (worstR (lateM (backM m) i) (leastL m) (wantsL (backM m)) (allL' m) 0).2 = (worstR (lateM m i) (leastL m) (wantsL m) (allL' m) 0).2 := fun i hi => by
    have hokl := lateM_ok h i
    rw [back_late]
    have := back_worst hokl hnn ha.2
    rw [lateM_shops, hra.all, ← ha.1] at this
    exact this
  refine ⟨by rw [wm, wb]; show (withoutL m).length = (withoutL (backM m)).length; omega, by rw [wm, wb], fun z => ?_, fun z => ?_, ?_⟩
  · rw [← more_same, ← more_same]
    unfold moreR
    have hrl : (backM m).rooms.length = m.rooms.length := rfl
    rw [hrl, hee]
    by_cases h0 : enterE m m.rooms.length [z] = 0
    · have hne : ¬ (enterE m m.rooms.length [z] ≠ 0) := by simp [h0]
      rw [if_neg hne, if_neg hne]
      have hk : ∀ k i, i + k = 61 → moreToR (backM m) z.toNat i k = moreToR m z.toNat i k := by
        intro k
        induction k with
        | zero => intro i _; rfl
        | succ k ih =>
          intro i hi
          unfold moreToR
          have hwn : ∀ y ∈ leastL (withM m z.toNat i), 0 ≤ y := handsL_nn (withM_ok h z.toNat (n := i) (by omega)) false
          have e1 := back_served hok hwn ha.2
          rw [hra.all, ← ha.1] at e1
          rw [hal, show leastL (withM (backM m) z.toNat i) = leastL (withM m z.toNat i) from rfl, e1, ih (i + 1) (by omega)]
      rw [hk 61 0 rfl]
    · rw [if_pos h0, if_pos h0]
  · rw [← late_same, ← late_same]
    unfold lateR
    have htl : (backM m).trains.length = m.trains.length := List.length_map _
    rw [htl, hee]
    by_cases h0 : enterE m m.trains.length [z] = 0
    · have hne : ¬ (enterE m m.trains.length [z] ≠ 0) := by simp [h0]
      rw [if_neg hne, if_neg hne]
      have hz := (enterE_ok h0).2 z (.head _)
      rw [hal, show leastL (backM m) = leastL m from rfl, hwa, hlate z.toNat (by omega)]
    · rw [if_pos h0, if_pos h0]
  · unfold goesP
    rw [if_neg hnm, if_neg hnb]
    have htl : (backM m).trains.length = m.trains.length := List.length_map _
    rw [htl]
    have key : ∀ k, k ≤ m.trains.length → goesTo m k = goesTo (backM m) k := by
      intro k
      induction k with
      | zero => intro _; rfl
      | succ k ih =>
        intro hk
        have hkl : k < m.trains.length := by omega
        have ht := hok.train _ (List.getElem_mem hkl)
        have e : (backM m).trains[k]? = some (backT m.shops.length m.trains[k]) := by show (m.trains.map _)[k]? = _; rw [List.getElem?_map, List.getElem?_eq_getElem hkl]; rfl
        simp only [goesTo, e, List.getElem?_eq_getElem hkl]
        rw [back_leaves ⟨by omega, by omega⟩, ih (by omega)]
    rw [key _ (Nat.le_refl _)]
end Go.Rt.Sh
