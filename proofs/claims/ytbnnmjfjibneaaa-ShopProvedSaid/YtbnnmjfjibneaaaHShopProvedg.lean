/- Own texts of this claim, joined. No conditions. -/
import Derived.Test.YtbnnmjfjibneaaaHShopProveda
import Derived.Test.YtbnnmjfjibneaaaHShopProvedb
import Derived.Test.YtbnnmjfjibneaaaHShopProvedc
import Derived.Test.YtbnnmjfjibneaaaHShopProvedd
import Derived.Test.YtbnnmjfjibneaaaHShopProvede
import Derived.Test.YtbnnmjfjibneaaaHShopProvedf
/- Walks of this seat, printed by gen.py over the engine: what each function returns, in whatever world. No conditions but those of each contract. -/
set_option linter.unusedVariables false
set_option linter.unusedSimpArgs false
set_option maxRecDepth 20000
namespace Go.Proofs
open Go.Rt Go.Rt.Sh
attribute [local irreducible] WL WC Con Yd At Ats Sl Agree DW
theorem Try_S_fb4 (x0 : Int) (w : World) : (Instr.buildSlice 30 1 [(0, .int .i64 x0)].toArray).run Try.prog w = .ok (.slice (some ⟨w.heap.size, 0, none⟩) 1 1) (w.alloc (Go.Rt.blk 3 [.int .i64 x0])) := by kernel_rfl
theorem bi2 {a b : Bool} {c d : Int} (h : a = b) (k : c = d) : [Value.bool a, Value.int .i64 c] = [Value.bool b, Value.int .i64 d] := by rw [h, k]
theorem c41 {w0 w : World} {F : List (Nat × Obj)} (al : Option Addr) (cl : Nat) (l : List Int) (hll : l.length ≤ 9223372036854775807) (hl : Sl w0 F al 1 (l.map fun x => [Value.int .i64 x])) (z : Int) (hs : St w0 w F) :
  Con Try.prog 41 [.slice al l.length cl, .int .i64 z] w fun v w' => v = .bool (hasI l z) ∧ St w0 w' F := by
  refine con_of_wc (n := 23) Try.func41 rfl rfl (Nat.le_of_ble_eq_true rfl) ?_
  refine w_seq (fun K2 hK1 => ?_)
  refine w_region ?_
  refine w_pure want_none (y_assign (v := _) rfl rfl) rfl ?_
  refine w_nil ?_
  refine q_then (hK1 _ _ ?_)
  refine w_seq (fun K4 hK3 => ?_)
  refine w_region ?_
  refine w_pure want_none (y_assign (v := _) rfl rfl) rfl ?_
  refine w_nil ?_
  refine q_then (hK3 _ _ ?_)
  refine w_seq (fun K6 hK5 => ?_)
  refine w_seq (fun K8 hK7 => ?_)
  refine w_region ?_
  refine w_pure want_none (y_assign (v := _) rfl rfl) rfl ?_
  refine w_nil ?_
  refine q_then (hK7 _ _ ?_)
  refine w_block ?_
  refine w_loop [5, 6, 7, 8, 9, 10, 11, 12, 13, 14, 15, 16, 17, 18, 19, 20, 21] [5, 6] (fun k vs w => ∃ i : Nat, vs = [.bool (hasI (l.take i) z), .int .i64 i] ∧ i ≤ l.length ∧ k = l.length - i ∧ St w0 w F) (l.length) ?_ ?_
  ·
   exact ⟨0, rfl, by omega, by omega, hs⟩
  ·
   intro k vs μ w11 hI K10 hN9
   obtain ⟨i, rfl, hia, rfl, hs⟩ := hI
   generalize hb : hasI (l.take i) z = b
   refine w_seq (fun K13 hK12 => ?_)
   refine w_seq (fun K15 hK14 => ?_)
   refine w_region ?_
   refine w_pure want_none (y_move (v := .int _ _) rfl rfl) rfl ?_
   refine w_pure want_none (y_move (v := .slice _ _ _) rfl rfl) rfl ?_
   refine w_pure want_none (y_lenS Try.underlying30 rfl rfl) rfl ?_
   refine w_pure want_none (y_lss rfl rfl rfl rfl) rfl ?_
   refine w_nil ?_
   refine q_then (hK14 _ _ ?_)
   refine w_cond rfl rfl (fun h16 => ?_) (fun h16 => ?_)
   ·
    try simp only [Bool.not_eq_true', Bool.not_eq_false', decide_eq_true_eq, decide_eq_false_iff_not, Int.not_lt, Int.not_le] at h16
    refine w_skip ?_
    refine q_then (hK12 _ _ ?_)
    refine w_seq (fun K18 hK17 => ?_)
    refine w_block ?_
    have hi2 : i < l.length := by omega
    obtain ⟨bx, ox, hbx, hx⟩ := sl_ints hl hi2
    subst hbx
    refine w_region ?_
    refine w_pure want_none (y_move (v := .bool _) rfl rfl) rfl ?_
    refine w_pure want_none (y_move (v := .bool _) rfl rfl) rfl ?_
    refine w_split (fun h19 => ?_) (fun h19 => ?_)
    ·
     subst h19
     refine w_skipop rfl rfl rfl ?_
     refine w_skipop rfl rfl rfl ?_
     refine w_skipop rfl rfl rfl ?_
     refine w_skipop rfl rfl rfl ?_
     refine w_skipop rfl rfl rfl ?_
     refine w_skipop rfl rfl rfl ?_
     refine w_pure want_none (y_pickT (v := _) rfl rfl rfl rfl) rfl ?_
     refine w_pure want_none (y_assign (v := .bool _) rfl rfl) rfl ?_
     refine w_nil ?_
     refine q_blk_normal ?_
     refine q_then (hK17 _ _ ?_)
     refine w_region ?_
     refine w_pure want_none (y_move (v := .int _ _) rfl rfl) rfl ?_
     refine w_pure want_none (y_add rfl rfl rfl rfl (by omega) (by omega)) rfl ?_
     refine w_pure want_none (y_assign (v := .int _ _) rfl rfl) rfl ?_
     refine w_nil ?_
     refine q_then (hN9 _ _ (Nx.intro (l.length - (i + 1)) (by omega) (by repeat (first | exact agree_mix | refine agree_upd rfl ?_ | refine agree_updL rfl ?_ _ | refine agree_mixin rfl ?_)) ?_))
     first
       | exact ⟨i + 1, bi2 (by rw [hasI_succ hi2, hb]; simp) rfl, by omega, rfl, hs⟩
       | exact ⟨i + 1, bi2 (by rw [hasI_succ hi2, hb]; rfl) rfl, by omega, rfl, hs⟩
    ·
     subst h19
     refine w_pure (want_yes rfl rfl rfl) (y_move (v := .slice _ _ _) rfl rfl) rfl ?_
     refine w_pure (want_yes rfl rfl rfl) (y_move (v := .int _ _) rfl rfl) rfl ?_
     refine w_pure (want_yes rfl rfl rfl) (y_indexS Try.underlying30 Try.sizeOf3 rfl rfl rfl rfl (i := _) rfl (by omega)) rfl ?_
     refine w_pure (want_yes rfl rfl rfl) (y_load1 Try.isAgg3 hs rfl rfl hx) rfl ?_
     refine w_pure (want_yes rfl rfl rfl) (y_move (v := .int _ _) rfl rfl) rfl ?_
     refine w_pure (want_yes rfl rfl rfl) (y_eql rfl rfl rfl rfl) rfl ?_
     refine w_pure want_none (y_pickF (v := .bool _) rfl rfl rfl rfl) rfl ?_
     refine w_pure want_none (y_assign (v := .bool _) rfl rfl) rfl ?_
     refine w_nil ?_
     refine q_blk_normal ?_
     refine q_then (hK17 _ _ ?_)
     refine w_region ?_
     refine w_pure want_none (y_move (v := .int _ _) rfl rfl) rfl ?_
     refine w_pure want_none (y_add rfl rfl rfl rfl (by omega) (by omega)) rfl ?_
     refine w_pure want_none (y_assign (v := .int _ _) rfl rfl) rfl ?_
     refine w_nil ?_
     refine q_then (hN9 _ _ (Nx.intro (l.length - (i + 1)) (by omega) (by repeat (first | exact agree_mix | refine agree_upd rfl ?_ | refine agree_updL rfl ?_ _ | refine agree_mixin rfl ?_)) ?_))
     first
       | exact ⟨i + 1, bi2 (by rw [hasI_succ hi2, hb]; simp) rfl, by omega, rfl, hs⟩
       | exact ⟨i + 1, bi2 (by rw [hasI_succ hi2, hb]; rfl) rfl, by omega, rfl, hs⟩
   ·
    try simp only [Bool.not_eq_true', Bool.not_eq_false', decide_eq_true_eq, decide_eq_false_iff_not, Int.not_lt, Int.not_le] at h16
    refine w_exit ?_
    refine q_then_exit ?_
    refine q_then_exit ?_
    refine q_blk_this ?_
    refine q_then (hK5 _ _ ?_)
    refine w_seq (fun K21 hK20 => ?_)
    refine w_region ?_
    refine w_pure want_none (y_move (v := .bool _) rfl rfl) rfl ?_
    refine w_pure want_none (y_assign (v := .bool _) rfl rfl) rfl ?_
    refine w_nil ?_
    refine q_then (hK20 _ _ ?_)
    refine w_ret ?_
    refine q_ret (l := [.tmp 4]) (vs := [_]) rfl ⟨⟨rfl, show _ = (.bool _ : Value) from rfl⟩, trivial⟩ ?_
    exact ⟨congrArg Value.bool (by have hil : i = l.length := (by omega); subst hil; rw [List.take_length] at hb; exact hb.symm), hs⟩

theorem c44 {w0 w : World} {F : List (Nat × Obj)} (m : Market) (p : At3) (hm : MIn w0 F m p) (hok : m.Ok) (al : Option Addr) (cl : Nat) (l : List Int) (hll : l.length ≤ 9223372036854775807) (hl : Sl w0 F al 1 (l.map fun x => [Value.int .i64 x]))  (hs : St w0 w F) :
  Con Try.prog 44 [.agg (m.cells p).toArray, .slice al l.length cl] w fun v w' => ∃ B a c, v = .slice a (othersTo l m.shops.length).length c ∧ Sl w0 B a 1 ((othersTo l m.shops.length).map fun x => [Value.int .i64 x]) ∧ St w0 w' (B ++ F) := by
  refine con_of_wc (n := 23) Try.func44 rfl rfl (Nat.le_of_ble_eq_true rfl) ?_
  obtain ⟨ar, cr, as_, cs, at_, ct⟩ := p
  have hls := hok.ls
  refine w_seq (fun K2 hK1 => ?_)
  refine w_region ?_
  refine w_box (v := .agg #[.slice _ _ _, .slice _ _ _, .slice _ _ _]) (cs := [_, _, _]) want_none rfl rfl rfl hs (fun b3 w4 hs5 => ?_)
  refine w_pure want_none (y_assign (v := _) rfl rfl) rfl ?_
  refine w_nil ?_
  refine q_then (hK1 _ _ ?_)
  refine w_seq (fun K7 hK6 => ?_)
  refine w_region ?_
  refine w_pure want_none (y_assign (v := _) rfl rfl) rfl ?_
  refine w_nil ?_
  refine q_then (hK6 _ _ ?_)
  refine w_seq (fun K9 hK8 => ?_)
  refine w_seq (fun K11 hK10 => ?_)
  refine w_region ?_
  refine w_pure want_none (y_assign (v := _) rfl rfl) rfl ?_
  refine w_nil ?_
  refine q_then (hK10 _ _ ?_)
  refine w_block ?_
  refine w_loop [5, 6, 7, 8, 9, 10, 11, 12, 13, 14, 15, 16, 17, 18, 19, 20, 21] [5, 6] (fun k vs w => ∃ (i : Nat) (v : Value) (B : List (Nat × Obj)), vs = [v, .int .i64 i] ∧ i ≤ m.shops.length ∧ k = m.shops.length - i ∧ Rt.Own v 3 1 (othersTo l i).length (iv (othersTo l i)) B ∧ St w0 w ((b3, blk 26 (m.cells ⟨ar, cr, as_, cs, at_, ct⟩)) :: (B ++ F))) (m.shops.length) ?_ ?_
  ·
   exact ⟨0, _, [], rfl, by omega, by omega, own_nil 3 1, hs5⟩
  ·
   intro k vs μ w14 hI K13 hN12
   obtain ⟨i, v, B, rfl, hia, rfl, hown, hs⟩ := hI
   refine w_seq (fun K16 hK15 => ?_)
   refine w_seq (fun K18 hK17 => ?_)
   refine w_region ?_
   refine w_pure want_none (y_move (v := .int _ _) rfl rfl) rfl ?_
   refine w_pure want_none (y_fieldAddr (o := 1) (i := 1) Try.underlying26 rfl Try.sizeOf23 rfl rfl rfl) rfl ?_
   refine w_pure want_none (y_load1 Try.isAgg23 hs rfl rfl (ats_own (i := 0) (vs := [_]) rfl rfl)) rfl ?_
   refine w_pure want_none (y_lenS Try.underlying23 rfl rfl) rfl ?_
   refine w_pure want_none (y_lss rfl rfl rfl rfl) rfl ?_
   refine w_nil ?_
   refine q_then (hK17 _ _ ?_)
   refine w_cond rfl rfl (fun h19 => ?_) (fun h19 => ?_)
   ·
    try simp only [Bool.not_eq_true', Bool.not_eq_false', decide_eq_true_eq, decide_eq_false_iff_not, Int.not_lt, Int.not_le] at h19
    refine w_skip ?_
    refine q_then (hK15 _ _ ?_)
    refine w_seq (fun K21 hK20 => ?_)
    refine w_block ?_
    refine w_seq (fun K23 hK22 => ?_)
    have hgl := othersTo_len l i
    refine w_region ?_
    refine w_pure want_none (y_move (v := .slice _ _ _) rfl rfl) rfl ?_
    refine w_pure want_none (y_move (v := .int _ _) rfl rfl) rfl ?_
    refine w_call want_none Try.call41 rfl rfl rfl rfl (c41 _ _ l hll hl.app.cons _ hs) ?_
    rintro _ w25 ⟨rfl, hs26⟩
    refine w_pure want_none (y_not rfl rfl) rfl ?_
    refine w_nil ?_
    refine q_then (hK22 _ _ ?_)
    refine w_cond rfl rfl (fun h27 => ?_) (fun h27 => ?_)
    ·
     try simp only [Bool.not_eq_true', Bool.not_eq_false', decide_eq_true_eq, decide_eq_false_iff_not, Int.not_lt, Int.not_le] at h27
     refine w_region ?_
     refine w_pure want_none (y_move (v := v) rfl rfl) rfl ?_
     refine w_pure want_none (y_move (v := .int _ _) rfl rfl) rfl ?_
     refine w_bslice (ps := [(0, _)]) (pv := [(0, .int _ _)]) (cs := [_]) want_none rfl rfl (fun w => Try_S_fb4 _ w) hs26 (fun b28 w29 hs30 => ?_)
     refine w_append (X := (_ :: _ :: [])) (B := B) (rows := [[_]]) (sz := 1) (bytes := 8) want_none Try.underlying30 Try_info3 rfl rfl rfl rfl rfl rfl rfl rfl rfl hs30 hown (sl_own (i := 0) rfl (by simp) rfl) rfl (by simp) (by simp [Value.oneCell']) (by simp only [maxLen]; omega) (by omega) (fun v31 w32 B33 ho34 hs35 => ?_)
     replace hs35 := (show St _ _ (_ :: _ :: B33 ++ (F)) from hs35)
     refine w_pure want_none (y_assign (v := v31) rfl rfl) rfl ?_
     refine w_nil ?_
     refine q_blk_normal ?_
     refine q_then (hK20 _ _ ?_)
     refine w_region ?_
     refine w_pure want_none (y_move (v := .int _ _) rfl rfl) rfl ?_
     refine w_pure want_none (y_add rfl rfl rfl rfl (by omega) (by omega)) rfl ?_
     refine w_pure want_none (y_assign (v := .int _ _) rfl rfl) rfl ?_
     refine w_nil ?_
     refine q_then (hN12 _ _ (Nx.intro (m.shops.length - (i + 1)) (by omega) (by repeat (first | exact agree_mix | refine agree_upd rfl ?_ | refine agree_updL rfl ?_ _ | refine agree_mixin rfl ?_)) ?_))
     exact ⟨i + 1, _, _, rfl, by omega, rfl, by rw [othersTo_no (by assumption)]; exact own_snoc ho34, hs35.tail⟩
    ·
     try simp only [Bool.not_eq_true', Bool.not_eq_false', decide_eq_true_eq, decide_eq_false_iff_not, Int.not_lt, Int.not_le] at h27
     refine w_skip ?_
     refine q_blk_normal ?_
     refine q_then (hK20 _ _ ?_)
     refine w_region ?_
     refine w_pure want_none (y_move (v := .int _ _) rfl rfl) rfl ?_
     refine w_pure want_none (y_add rfl rfl rfl rfl (by omega) (by omega)) rfl ?_
     refine w_pure want_none (y_assign (v := .int _ _) rfl rfl) rfl ?_
     refine w_nil ?_
     refine q_then (hN12 _ _ (Nx.intro (m.shops.length - (i + 1)) (by omega) (by repeat (first | exact agree_mix | refine agree_upd rfl ?_ | refine agree_updL rfl ?_ _ | refine agree_mixin rfl ?_)) ?_))
     exact ⟨i + 1, v, B, rfl, by omega, rfl, by rw [othersTo_yes (by assumption)]; exact hown, hs26⟩
   ·
    try simp only [Bool.not_eq_true', Bool.not_eq_false', decide_eq_true_eq, decide_eq_false_iff_not, Int.not_lt, Int.not_le] at h19
    refine w_exit ?_
    refine q_then_exit ?_
    refine q_then_exit ?_
    refine q_blk_this ?_
    refine q_then (hK8 _ _ ?_)
    refine w_seq (fun K37 hK36 => ?_)
    refine w_region ?_
    refine w_pure want_none (y_move (v := v) rfl rfl) rfl ?_
    refine w_pure want_none (y_assign (v := v) rfl rfl) rfl ?_
    refine w_nil ?_
    refine q_then (hK36 _ _ ?_)
    refine w_ret ?_
    refine q_ret (l := [.tmp 4]) (vs := [_]) rfl ⟨⟨rfl, show _ = (v : Value) from rfl⟩, trivial⟩ ?_
    have hil : i = m.shops.length := by omega
    subst hil
    obtain ⟨ag, cg, rfl, hsg⟩ := own_sl_map (w0 := w0) hown rfl []
    rw [List.append_nil] at hsg
    exact ⟨B, ag, cg, rfl, hsg, hs.tail⟩

theorem c48 {w0 w : World} {F : List (Nat × Obj)} (m : Market) (p : At3) (hm : MIn w0 F m p) (hok : m.Ok) (hs : St w0 w F) :
  Con Try.prog 48 [.agg (m.cells p).toArray] w fun v w' => ∃ B a c, v = .slice a (othersTo [] m.shops.length).length c ∧ Sl w0 B a 1 ((othersTo [] m.shops.length).map fun x => [Value.int .i64 x]) ∧ St w0 w' (B ++ F) := by
  refine con_of_wc (n := 5) Try.func48 rfl rfl (Nat.le_of_ble_eq_true rfl) ?_
  refine w_seq (fun K2 hK1 => ?_)
  refine w_region ?_
  refine w_box (v := .agg #[.slice _ _ _, .slice _ _ _, .slice _ _ _]) (cs := [_, _, _]) want_none rfl rfl rfl hs (fun b3 w4 hs5 => ?_)
  refine w_pure want_none (y_assign (v := _) rfl rfl) rfl ?_
  refine w_nil ?_
  refine q_then (hK1 _ _ ?_)
  refine w_seq (fun K7 hK6 => ?_)
  refine w_region ?_
  refine w_pure want_none (y_loadN (vs := [_, _, _]) Try.isAgg26 Try.sizeOf26 hs5 rfl rfl (ats_own (i := 0) (vs := [_, _, _]) rfl rfl)) rfl ?_
  refine w_call want_none Try.call44 rfl rfl rfl rfl (c44 m _ hm.cons hok none 0 [] (by simp) (Sl.nil _ _) hs5) ?_
  rintro _ w9 ⟨B, ag, cg, rfl, hsg, hs10⟩
  replace hs10 := (show St _ _ (B ++ (_ :: F)) from hs10)
  refine w_pure want_none (y_assign (v := .slice _ _ _) rfl rfl) rfl ?_
  refine w_nil ?_
  refine q_then (hK6 _ _ ?_)
  refine w_ret ?_
  refine q_ret (l := [.tmp 2]) (vs := [_]) rfl ⟨⟨rfl, show _ = (.slice _ _ _ : Value) from rfl⟩, trivial⟩ ?_
  exact ⟨B ++ [_], ag, cg, rfl, hsg.top, by rw [List.append_assoc]; exact hs10⟩

end Go.Proofs
/- Walks of this seat, printed by gen.py over the engine: what each function returns, in whatever world. No conditions but those of each contract. -/
set_option linter.unusedVariables false
set_option linter.unusedSimpArgs false
set_option maxRecDepth 20000
namespace Go.Proofs
open Go.Rt Go.Rt.Sh
attribute [local irreducible] WL WC Con Yd At Ats Sl Agree DW

theorem c38 {w0 w : World} {F : List (Nat × Obj)} (al : Option Addr) (cl : Nat) (l : List Int) (hll : l.length ≤ 9223372036854775807) (hl : Sl w0 F al 1 (l.map fun x => [Value.int .i64 x])) (n : Int) (hs : St w0 w F) :
  Con Try.prog 38 [.slice al l.length cl, .int .i64 n] w fun v w' => v = .bool (rising n (-1) l) ∧ St w0 w' F := by
  refine con_of_wc (n := 31) Try.func38 rfl rfl (Nat.le_of_ble_eq_true rfl) ?_
  refine w_seq (fun K2 hK1 => ?_)
  refine w_region ?_
  refine w_pure want_none (y_assign (v := _) rfl rfl) rfl ?_
  refine w_nil ?_
  refine q_then (hK1 _ _ ?_)
  refine w_seq (fun K4 hK3 => ?_)
  refine w_region ?_
  refine w_pure want_none (y_assign (v := _) rfl rfl) rfl ?_
  refine w_nil ?_
  refine q_then (hK3 _ _ ?_)
  refine w_seq (fun K6 hK5 => ?_)
  refine w_seq (fun K8 hK7 => ?_)
  refine w_region ?_
  refine w_pure want_none (y_assign (v := _) rfl rfl) rfl ?_
  refine w_nil ?_
  refine q_then (hK7 _ _ ?_)
  refine w_block ?_
  refine w_loop [4, 5, 6, 7, 8, 9, 10, 11, 12, 13, 14, 15, 16, 17, 18, 19, 20, 21, 22, 23, 24, 25, 26, 27, 28, 29, 30] [5, 6] (fun k vs w => ∃ (i : Nat) (p : Int), vs = [.int .i64 p, .int .i64 i] ∧ i ≤ l.length ∧ k = l.length - i ∧ rising n (-1) l = rising n p (l.drop i) ∧ St w0 w F) (l.length) ?_ ?_
  ·
   exact ⟨0, -1, rfl, by omega, by omega, rfl, hs⟩
  ·
   intro k vs μ w11 hI K10 hN9
   obtain ⟨i, p, rfl, hia, rfl, hri, hs⟩ := hI
   refine w_seq (fun K13 hK12 => ?_)
   refine w_seq (fun K15 hK14 => ?_)
   refine w_region ?_
   refine w_pure want_none (y_move (v := .int _ _) rfl rfl) rfl ?_
   refine w_pure want_none (y_move (v := .slice _ _ _) rfl rfl) rfl ?_
   refine w_pure want_none (y_lenS Try.underlying30 rfl rfl) rfl ?_
   refine w_pure want_none (y_lss rfl rfl rfl rfl) rfl ?_
   refine w_nil ?_
   refine q_then (hK14 _ _ ?_)
   refine w_cond rfl rfl (fun h16 => ?_) (fun h16 => ?_)
   ·
    try simp only [Bool.not_eq_true', Bool.not_eq_false', decide_eq_true_eq, decide_eq_false_iff_not, Int.not_lt, Int.not_le] at h16
    refine w_skip ?_
    refine q_then (hK12 _ _ ?_)
    refine w_seq (fun K18 hK17 => ?_)
    refine w_block ?_
    refine w_seq (fun K20 hK19 => ?_)
    refine w_seq (fun K22 hK21 => ?_)
    have hi2 : i < l.length := by omega
    obtain ⟨bx, ox, hbx, hx⟩ := sl_ints hl hi2
    subst hbx
    refine w_region ?_
    refine w_pure want_none (y_move (v := .slice _ _ _) rfl rfl) rfl ?_
    refine w_pure want_none (y_move (v := .int _ _) rfl rfl) rfl ?_
    refine w_pure want_none (y_indexS Try.underlying30 Try.sizeOf3 rfl rfl rfl rfl (i := _) rfl (by omega)) rfl ?_
    refine w_pure want_none (y_load1 Try.isAgg3 hs rfl rfl hx) rfl ?_
    refine w_pure want_none (y_move (v := .int _ _) rfl rfl) rfl ?_
    refine w_pure want_none (y_leq rfl rfl rfl rfl) rfl ?_
    refine w_pure want_none (y_move (v := .bool _) rfl rfl) rfl ?_
    refine w_split (fun h23 => ?_) (fun h23 => ?_)
    ·
     try simp only [Bool.not_eq_true', Bool.not_eq_false', decide_eq_true_eq, decide_eq_false_iff_not, Int.not_lt, Int.not_le] at h23
     refine w_skipop rfl rfl rfl ?_
     refine w_skipop rfl rfl rfl ?_
     refine w_skipop rfl rfl rfl ?_
     refine w_skipop rfl rfl rfl ?_
     refine w_skipop rfl rfl rfl ?_
     refine w_skipop rfl rfl rfl ?_
     refine w_pure want_none (y_pickT (v := _) rfl rfl rfl rfl) rfl ?_
     refine w_nil ?_
     refine q_then (hK21 _ _ ?_)
     refine w_condT rfl rfl ?_
     refine w_seq (fun K25 hK24 => ?_)
     refine w_region ?_
     refine w_pure want_none (y_assign (v := _) rfl rfl) rfl ?_
     refine w_nil ?_
     refine q_then (hK24 _ _ ?_)
     refine w_ret ?_
     refine q_then_ret ?_
     refine q_blk_ret ?_
     refine q_then_ret ?_
     refine q_then_ret ?_
     refine q_blk_ret ?_
     refine q_then_ret ?_
     refine q_ret (l := [.tmp 4]) (vs := [_]) rfl ⟨⟨rfl, show _ = (.bool _ : Value) from rfl⟩, trivial⟩ ?_
     first
       | exact ⟨congrArg Value.bool (hri.trans (rising_end (by omega))).symm, hs⟩
       | exact ⟨congrArg Value.bool (hri.trans (rising_stop hi2 (by omega))).symm, hs⟩
    ·
     try simp only [Bool.not_eq_true', Bool.not_eq_false', decide_eq_true_eq, decide_eq_false_iff_not, Int.not_lt, Int.not_le] at h23
     refine w_pure (want_yes rfl rfl rfl) (y_move (v := .slice _ _ _) rfl rfl) rfl ?_
     refine w_pure (want_yes rfl rfl rfl) (y_move (v := .int _ _) rfl rfl) rfl ?_
     refine w_pure (want_yes rfl rfl rfl) (y_indexS Try.underlying30 Try.sizeOf3 rfl rfl rfl rfl (i := _) rfl (by omega)) rfl ?_
     refine w_pure (want_yes rfl rfl rfl) (y_load1 Try.isAgg3 hs rfl rfl hx) rfl ?_
     refine w_pure (want_yes rfl rfl rfl) (y_move (v := .int _ _) rfl rfl) rfl ?_
     refine w_pure (want_yes rfl rfl rfl) (y_geq rfl rfl rfl rfl) rfl ?_
     refine w_pure want_none (y_pickF (v := .bool _) rfl rfl rfl rfl) rfl ?_
     refine w_nil ?_
     refine q_then (hK21 _ _ ?_)
     refine w_cond rfl rfl (fun h26 => ?_) (fun h26 => ?_)
     ·
      try simp only [Bool.not_eq_true', Bool.not_eq_false', decide_eq_true_eq, decide_eq_false_iff_not, Int.not_lt, Int.not_le] at h26
      refine w_seq (fun K28 hK27 => ?_)
      refine w_region ?_
      refine w_pure want_none (y_assign (v := _) rfl rfl) rfl ?_
      refine w_nil ?_
      refine q_then (hK27 _ _ ?_)
      refine w_ret ?_
      refine q_then_ret ?_
      refine q_blk_ret ?_
      refine q_then_ret ?_
      refine q_then_ret ?_
      refine q_blk_ret ?_
      refine q_then_ret ?_
      refine q_ret (l := [.tmp 4]) (vs := [_]) rfl ⟨⟨rfl, show _ = (.bool _ : Value) from rfl⟩, trivial⟩ ?_
      first
        | exact ⟨congrArg Value.bool (hri.trans (rising_end (by omega))).symm, hs⟩
        | exact ⟨congrArg Value.bool (hri.trans (rising_stop hi2 (by omega))).symm, hs⟩
     ·
      try simp only [Bool.not_eq_true', Bool.not_eq_false', decide_eq_true_eq, decide_eq_false_iff_not, Int.not_lt, Int.not_le] at h26
      refine w_skip ?_
      refine q_then (hK19 _ _ ?_)
      refine w_region ?_
      refine w_pure want_none (y_move (v := .slice _ _ _) rfl rfl) rfl ?_
      refine w_pure want_none (y_move (v := .int _ _) rfl rfl) rfl ?_
      refine w_pure want_none (y_indexS Try.underlying30 Try.sizeOf3 rfl rfl rfl rfl (i := _) rfl (by omega)) rfl ?_
      refine w_pure want_none (y_load1 Try.isAgg3 hs rfl rfl hx) rfl ?_
      refine w_pure want_none (y_assign (v := .int _ _) rfl rfl) rfl ?_
      refine w_nil ?_
      refine q_blk_normal ?_
      refine q_then (hK17 _ _ ?_)
      refine w_region ?_
      refine w_pure want_none (y_move (v := .int _ _) rfl rfl) rfl ?_
      refine w_pure want_none (y_add rfl rfl rfl rfl (by omega) (by omega)) rfl ?_
      refine w_pure want_none (y_assign (v := .int _ _) rfl rfl) rfl ?_
      refine w_nil ?_
      refine q_then (hN9 _ _ (Nx.intro (l.length - (i + 1)) (by omega) (by repeat (first | exact agree_mix | refine agree_upd rfl ?_ | refine agree_updL rfl ?_ _ | refine agree_mixin rfl ?_)) ?_))
      exact ⟨i + 1, _, rfl, by omega, rfl, hri.trans (rising_step hi2 (by omega) (by omega)), hs⟩
   ·
    try simp only [Bool.not_eq_true', Bool.not_eq_false', decide_eq_true_eq, decide_eq_false_iff_not, Int.not_lt, Int.not_le] at h16
    refine w_exit ?_
    refine q_then_exit ?_
    refine q_then_exit ?_
    refine q_blk_this ?_
    refine q_then (hK5 _ _ ?_)
    refine w_seq (fun K30 hK29 => ?_)
    refine w_region ?_
    refine w_pure want_none (y_assign (v := _) rfl rfl) rfl ?_
    refine w_nil ?_
    refine q_then (hK29 _ _ ?_)
    refine w_ret ?_
    refine q_ret (l := [.tmp 4]) (vs := [_]) rfl ⟨⟨rfl, show _ = (.bool _ : Value) from rfl⟩, trivial⟩ ?_
    first
      | exact ⟨congrArg Value.bool (hri.trans (rising_end (by omega))).symm, hs⟩
      | exact ⟨congrArg Value.bool (hri.trans (rising_stop hi2 (by omega))).symm, hs⟩

end Go.Proofs
/- Walks of this seat, printed by gen.py over the engine: what each function returns, in whatever world. No conditions but those of each contract. -/
set_option linter.unusedVariables false
set_option linter.unusedSimpArgs false
set_option maxRecDepth 20000
namespace Go.Proofs
open Go.Rt Go.Rt.Sh
attribute [local irreducible] WL WC Con Yd At Ats Sl Agree DW
theorem Try_V_fb4 (x0 : Option Addr) (l0 c0 : Nat) (w : World) : (Instr.buildSlice 100 1 [(0, .slice x0 l0 c0)].toArray).run Try.prog w = .ok (.slice (some ⟨w.heap.size, 0, none⟩) 1 1) (w.alloc (Go.Rt.blk 30 [.slice x0 l0 c0])) := by kernel_rfl
theorem Try_V_fb5  (w : World) : (Instr.buildSlice 30 0 [].toArray).run Try.prog w = .ok (.slice (some ⟨w.heap.size, 0, none⟩) 0 0) (w.alloc (Go.Rt.blk 3 [])) := by kernel_rfl
theorem Try_V_fb6 (x0 : Int) (w : World) : (Instr.buildSlice 30 1 [(0, .int .i64 x0)].toArray).run Try.prog w = .ok (.slice (some ⟨w.heap.size, 0, none⟩) 1 1) (w.alloc (Go.Rt.blk 3 [.int .i64 x0])) := by kernel_rfl
theorem Try_info30 : Try.prog.info? 30 = some Try.t30 := by kernel_rfl
/-- Slices of integers, as values: what each reads as. -/
def EL (w0 : World) (L : List (Nat × Obj)) (vs : List Value) (ll : List (List Int)) : Prop :=
  vs.length = ll.length ∧ ∀ k (h : k < ll.length), ∃ b c, vs[k]? = some (.slice b ll[k].length c) ∧ Sl w0 L b 1 (ll[k].map fun x => [Value.int .i64 x]) ∧ (b = none → c = 0)
theorem EL.mono {w0 : World} {L L' : List (Nat × Obj)} {vs : List Value} {ll : List (List Int)} (h : EL w0 L vs ll) (hs : ∀ w, St w0 w L' → St w0 w L) : EL w0 L' vs ll :=
  ⟨h.1, fun k hk => by obtain ⟨b, c, h1, h2, h3⟩ := h.2 k hk; exact ⟨b, c, h1, h2.mono hs, h3⟩⟩
theorem EL.cons {w0 : World} {L : List (Nat × Obj)} {x : Nat × Obj} {vs : List Value} {ll : List (List Int)} (h : EL w0 L vs ll) : EL w0 (x :: L) vs ll := h.mono fun _ h => h.tail
theorem EL.app {w0 : World} {L B : List (Nat × Obj)} {vs : List Value} {ll : List (List Int)} (h : EL w0 L vs ll) : EL w0 (B ++ L) vs ll := h.mono fun _ h => h.drop
theorem EL.top {w0 : World} {B F : List (Nat × Obj)} {vs : List Value} {ll : List (List Int)} (h : EL w0 B vs ll) : EL w0 (B ++ F) vs ll := h.mono fun _ h => h.front
theorem EL.nil (w0 : World) (L : List (Nat × Obj)) : EL w0 L [] [] := ⟨rfl, fun k h => by simp at h⟩
theorem EL.snoc {w0 : World} {L : List (Nat × Obj)} {vs : List Value} {ll : List (List Int)} {b : Option Addr} {c : Nat} {l : List Int} (h : EL w0 L vs ll) (hl : Sl w0 L b 1 (l.map fun x => [Value.int .i64 x])) (hn : b = none → c = 0) : EL w0 L (vs ++ [.slice b l.length c]) (ll ++ [l]) := by
  refine ⟨by simp [h.1], fun k hk => ?_⟩
  rw [List.length_append, List.length_singleton] at hk
  by_cases hkl : k < ll.length
  · obtain ⟨b', c', h1, h2, h3⟩ := h.2 k hkl
    refine ⟨b', c', ?_, ?_, h3⟩
    · rw [List.getElem?_append_left (by rw [h.1]; exact hkl), h1, List.getElem_append_left hkl]
    · rw [List.getElem_append_left hkl]; exact h2
  · have : k = ll.length := by omega
    subst this
    refine ⟨b, c, ?_, ?_, hn⟩
    · rw [List.getElem?_append_right (by rw [h.1]; omega), h.1]; simp
    · simpa using hl
theorem el_at {w0 : World} {L : List (Nat × Obj)} {a : Option Addr} {vs : List Value} {ll : List (List Int)} {k : Nat} (hs : Sl w0 L a 1 (vs.map fun v => [v])) (h : EL w0 L vs ll) (hk : k < ll.length) :
    ∃ b off b2 c2, a = some ⟨b, off, none⟩ ∧ Ats w0 L b (off + k * 1) [.slice b2 ll[k].length c2] ∧ Sl w0 L b2 1 (ll[k].map fun x => [Value.int .i64 x]) ∧ (b2 = none → c2 = 0) := by
  obtain ⟨b2, c2, h1, h2, h3⟩ := h.2 k hk
  obtain ⟨b, off, ha, _, hat⟩ := hs.at (i := k) (row := [.slice b2 ll[k].length c2]) (by rw [List.getElem?_map, h1]; rfl)
  exact ⟨b, off, b2, c2, ha, hat, h2, h3⟩
theorem el_perm {w0 w : World} {a b : Nat × Obj} {B N E R : List (Nat × Obj)} (h : St w0 w (a :: b :: (B ++ (N ++ (E ++ R))))) : St w0 w (N ++ ((B ++ E) ++ R)) := by
  have h1 : St w0 w (B ++ (N ++ (E ++ R))) := h.tail.tail
  have h2 : St w0 w (N ++ (B ++ (E ++ R))) := h1.perm (perm_mid B N (E ++ R))
  rwa [← List.append_assoc B] at h2
theorem el_perm1 {w0 w : World} {a : Nat × Obj} {B N E R : List (Nat × Obj)} (h : St w0 w (a :: (B ++ (N ++ (E ++ R))))) : St w0 w (N ++ ((B ++ E) ++ R)) := by
  have h2 : St w0 w (N ++ (B ++ (E ++ R))) := h.tail.perm (perm_mid B N (E ++ R))
  rwa [← List.append_assoc B] at h2
theorem _root_.Go.Rt.Ats.top {w0 : World} {B F : List (Nat × Obj)} {b off : Nat} {vs : List Value} (h : Ats w0 B b off vs) : Ats w0 (B ++ F) b off vs := h.mono fun _ h => h.front
theorem el_drop2 (N E1 O E F : List (Nat × Obj)) : (N ++ (E1 ++ (O ++ (E ++ F)))).Perm ((O ++ E) ++ (N ++ (E1 ++ F))) := by
  have h := perm_mid (N ++ E1) (O ++ E) F
  simpa only [List.append_assoc] using h
theorem flat_ints (l : List Int) : (l.map fun x => [Value.int .i64 x]).flatten = iv l := by induction l <;> simp_all
theorem ints_one (l : List Int) : ∀ row ∈ (l.map fun x => [Value.int .i64 x]), ∀ u ∈ row, u.oneCell' = true := by
  intro row hr u hu; obtain ⟨x, _, rfl⟩ := List.mem_map.1 hr; simp at hu; subst hu; rfl
/-- A list of one's own, as a slice: nil has no room. -/
theorem own_ints {w0 : World} {v : Value} {l : List Int} {B : List (Nat × Obj)} (h : Rt.Own v 3 1 l.length (iv l) B) : ∃ a c, v = .slice a l.length c ∧ Sl w0 B a 1 (l.map fun x => [Value.int .i64 x]) ∧ (a = none → c = 0) ∧ l.length ≤ c := by
  obtain ⟨a, c, hv, hs⟩ := own_sl_map (w0 := w0) h rfl []
  rw [List.append_nil] at hs
  refine ⟨a, c, hv, hs, fun ha => ?_, ?_⟩
  · rcases h.2 with ⟨h2, _⟩ | ⟨b, cap, cs, h2, _⟩
    · rw [h2] at hv; injection hv with _ _ h3; exact h3.symm
    · rw [h2] at hv; injection hv with h3; rw [ha] at h3; cases h3
  · rcases h.2 with ⟨h2, h3, _⟩ | ⟨b, cap, cs, h2, _, h4, _⟩
    · rw [h2] at hv; injection hv with _ _ h5; omega
    · rw [h2] at hv; injection hv with _ _ h5; omega
theorem own_ints1 {v : Value} {l : List Int} {d : Int} {B : List (Nat × Obj)} (h : Rt.Own v 3 1 (0 + l.length + 1) ([] ++ (l.map fun x => [Value.int .i64 x]).flatten ++ [[Value.int .i64 d]].flatten) B) : Rt.Own v 3 1 (l ++ [d]).length (iv (l ++ [d])) B := by
  rw [flat_ints] at h
  simpa [Nat.add_comm] using h
theorem own_el {v : Value} {ws : List Value} {u : Value} {NB : List (Nat × Obj)} {g : List (List Int)} {x : List Int} (h : Rt.Own v 30 1 (g.length + 1) (ws ++ [[u]].flatten) NB) : Rt.Own v 30 1 (g ++ [x]).length (ws ++ [u]) NB := by simpa using h
theorem yd_slice {P : Program} {a : Act} {o : Oper} {w : World} {x y : Option Addr} {l c : Nat} (h : x = y) (hy : Yd P a o w (.slice x l c)) : Yd P a o w (.slice y l c) := h ▸ hy
theorem sl_own_ints {w0 : World} {L : List (Nat × Obj)} {i b n : Nat} {t : TypeId} {cs : List Value} {l : List Int} (hi : L[i]? = some (b, blk t cs)) (hn : l.length = n) (h : cs.take (n * 1) = iv l) : Sl w0 L (some ⟨b, 0, none⟩) 1 (l.map fun x => [Value.int .i64 x]) :=
  sl_own hi (by intro row hr; obtain ⟨f, _, rfl⟩ := List.mem_map.1 hr; rfl) (by rw [List.length_map, flat_ints, hn]; exact h)
theorem el_more {w0 : World} {B E : List (Nat × Obj)} {ws : List Value} {g : List (List Int)} {a : Option Addr} {c : Nat} {l : List Int} (h : EL w0 E ws g) (hs : Sl w0 B a 1 (l.map fun x => [Value.int .i64 x])) (hn : a = none → c = 0) : EL w0 (B ++ E) (ws ++ [.slice a l.length c]) (g ++ [l]) := h.app.snoc hs.top hn
theorem c93 {w0 w : World} {F : List (Nat × Obj)} (below many : Nat) (hb12 : below ≤ 11) (hm12 : many ≤ 11) (hs : St w0 w F) : Con Try.prog 93 [.int .i64 (below : Int), .int .i64 (many : Int)] w fun v w' => ∃ (B : List (Nat × Obj)) (vs : List Value) (a : Option Addr) (c : Nat), v = .slice a (choices below many).length c ∧ Sl w0 B a 1 (vs.map fun v => [v]) ∧ EL w0 B vs (choices below many) ∧ St w0 w' (B ++ F) := by
  refine con_of_wc (n := 54) Try.func93 rfl rfl (Nat.le_of_ble_eq_true rfl) ?_
  refine w_seq (fun K2 hK1 => ?_)
  refine w_region ?_
  refine w_pure want_none (y_assign (v := _) rfl rfl) rfl ?_
  refine w_nil ?_
  refine q_then (hK1 _ _ ?_)
  refine w_seq (fun K4 hK3 => ?_)
  refine w_region ?_
  refine w_bslice (ps := [(0, _)]) (pv := [(0, .slice _ _ _)]) (cs := [_]) want_none rfl rfl (fun w => Try_V_fb4 _ _ _ w) hs (fun b5 w6 hs7 => ?_)
  refine w_pure want_none (y_assign (v := .slice _ _ _) rfl rfl) rfl ?_
  refine w_nil ?_
  refine q_then (hK3 _ _ ?_)
  refine w_seq (fun K9 hK8 => ?_)
  refine w_seq (fun K11 hK10 => ?_)
  refine w_region ?_
  refine w_pure want_none (y_assign (v := _) rfl rfl) rfl ?_
  refine w_nil ?_
  refine q_then (hK10 _ _ ?_)
  refine w_block ?_
  refine w_loop [5, 6, 7, 8, 9, 10, 12, 13, 14, 15, 16, 17, 18, 19, 20, 21, 22, 23, 24, 25, 26, 27, 28, 29, 30, 31, 32, 33, 34, 35, 36, 37, 38, 39, 40, 41, 42, 43, 44, 45, 46, 47, 48, 49, 50, 51, 52] [5, 6] (fun kk vs0 w => ∃ (i : Nat) (vO : Value) (OB E : List (Nat × Obj)) (vs : List Value), vs0 = [vO, .int .i64 i] ∧ i ≤ many ∧ kk = many - i ∧ Rt.Own vO 30 1 (choices below i).length vs OB ∧ EL w0 E vs (choices below i) ∧ St w0 w (OB ++ (E ++ F))) (many) ?_ ?_
  ·
   exact ⟨0, _, [_], [], [.slice none 0 0], rfl, by omega, by omega, own_lit rfl (by simp [maxLen]), ⟨rfl, fun k hk => ⟨none, 0, by simp [choices] at hk; subst hk; rfl, by simp [choices] at hk; subst hk; exact Sl.nil _ _, fun _ => rfl⟩⟩, hs7⟩
  ·
   intro k vs μ w14 hI K13 hN12
   obtain ⟨i, vO, OB, E, vs, rfl, hia, rfl, hown0, hel, hs⟩ := hI
   refine w_seq (fun K16 hK15 => ?_)
   refine w_seq (fun K18 hK17 => ?_)
   refine w_region ?_
   refine w_pure want_none (y_move (v := .int _ _) rfl rfl) rfl ?_
   refine w_pure want_none (y_move (v := .int _ _) rfl rfl) rfl ?_
   refine w_pure want_none (y_lss rfl rfl rfl rfl) rfl ?_
   refine w_nil ?_
   refine q_then (hK17 _ _ ?_)
   refine w_cond rfl rfl (fun h19 => ?_) (fun h19 => ?_)
   ·
    try simp only [Bool.not_eq_true', Bool.not_eq_false', decide_eq_true_eq, decide_eq_false_iff_not, Int.not_lt, Int.not_le] at h19
    refine w_skip ?_
    refine q_then (hK15 _ _ ?_)
    refine w_seq (fun K21 hK20 => ?_)
    refine w_block ?_
    refine w_seq (fun K23 hK22 => ?_)
    have hi2 : i < many := by omega
    have hcm := choices_max (i := i) hb12 (by omega)
    have hcl := choices_len (below := below) i
    obtain ⟨aO, cO, rfl, hslO⟩ := own_sl_id (w0 := w0) hown0 hel.1 (E ++ F)
    refine w_region ?_
    refine w_pure want_none (y_assign (v := _) rfl rfl) rfl ?_
    refine w_nil ?_
    refine q_then (hK22 _ _ ?_)
    refine w_seq (fun K25 hK24 => ?_)
    refine w_seq (fun K27 hK26 => ?_)
    refine w_region ?_
    refine w_pure want_none (y_assign (v := _) rfl rfl) rfl ?_
    refine w_nil ?_
    refine q_then (hK26 _ _ ?_)
    refine w_block ?_
    refine w_loop [7, 8, 9, 10, 17, 18, 19, 20, 21, 22, 23, 24, 25, 26, 27, 28, 29, 30, 31, 32, 33, 34, 35, 36, 37, 38, 39, 40, 41, 42, 43, 44, 45, 46, 47, 48, 49, 50, 51] [7, 8] (fun kk vs0 w => ∃ (k : Nat) (vN : Value) (NB E1 : List (Nat × Obj)) (ws : List Value), vs0 = [vN, .int .i64 k] ∧ k ≤ (choices below i).length ∧ kk = (choices below i).length - k ∧ Rt.Own vN 30 1 (chTo below i k).length ws NB ∧ EL w0 E1 ws (chTo below i k) ∧ St w0 w (NB ++ (E1 ++ (OB ++ (E ++ F))))) ((choices below i).length) ?_ ?_
    ·
     exact ⟨0, _, [], [], [], rfl, by omega, by omega, own_nil 30 1, EL.nil _ _, hs⟩
    ·
     intro k vs μ w30 hI K29 hN28
     obtain ⟨k, vN, NB, E1, ws, rfl, hka, rfl, hown1, hel1, hs⟩ := hI
     refine w_seq (fun K32 hK31 => ?_)
     refine w_seq (fun K34 hK33 => ?_)
     refine w_region ?_
     refine w_pure want_none (y_move (v := .int _ _) rfl rfl) rfl ?_
     refine w_pure want_none (y_move (v := .slice _ _ _) rfl rfl) rfl ?_
     refine w_pure want_none (y_lenS Try.underlying100 rfl rfl) rfl ?_
     refine w_pure want_none (y_lss rfl rfl rfl rfl) rfl ?_
     refine w_nil ?_
     refine q_then (hK33 _ _ ?_)
     refine w_cond rfl rfl (fun h35 => ?_) (fun h35 => ?_)
     ·
      try simp only [Bool.not_eq_true', Bool.not_eq_false', decide_eq_true_eq, decide_eq_false_iff_not, Int.not_lt, Int.not_le] at h35
      refine w_skip ?_
      refine q_then (hK31 _ _ ?_)
      refine w_seq (fun K37 hK36 => ?_)
      refine w_block ?_
      refine w_seq (fun K39 hK38 => ?_)
      have hk2 : k < (choices below i).length := by omega
      obtain ⟨bx, ox, b2, c2, rfl, hx, hsx0, hnx⟩ := el_at hslO (hel.mono fun _ h => h.drop.front) hk2
      have hxl := (hcl _ (List.getElem_mem hk2)).1
      have hln := leastN_nn (List.getElem_mem hk2)
      refine w_region ?_
      refine w_pure want_none (y_assign (v := _) rfl rfl) rfl ?_
      refine w_nil ?_
      refine q_then (hK38 _ _ ?_)
      refine w_seq (fun K41 hK40 => ?_)
      refine w_cut [9, 23, 24, 25, 26, 27, 28, 29, 30, 31, 32, 33] [9] (fun vs w => vs = [.int .i64 (leastN ((choices below i)[k]'hk2))] ∧ St w0 w (NB ++ (E1 ++ (OB ++ (E ++ F))))) (fun K43 hC42 => ?_) ?_
      ·
       refine w_seq (fun K45 hK44 => ?_)
       refine w_region ?_
       refine w_pure want_none (y_move (v := .int _ _) rfl rfl) rfl ?_
       refine w_pure want_none (y_gtr rfl rfl rfl rfl) rfl ?_
       refine w_nil ?_
       refine q_then (hK44 _ _ ?_)
       refine w_cond rfl rfl (fun h46 => ?_) (fun h46 => ?_)
       ·
        try simp only [Bool.not_eq_true', Bool.not_eq_false', decide_eq_true_eq, decide_eq_false_iff_not, Int.not_lt, Int.not_le] at h46
        obtain ⟨by_, oy, hb2, hy⟩ := sl_ints (i := i - 1) hsx0 (by omega)
        subst hb2
        have hyb := (hcl _ (List.getElem_mem hk2)).2 _ (List.getElem_mem (show i - 1 < ((choices below i)[k]'hk2).length by omega))
        refine w_region ?_
        refine w_pure want_none (y_move (v := .slice _ _ _) rfl rfl) rfl ?_
        refine w_pure want_none (y_move (v := .int _ _) rfl rfl) rfl ?_
        refine w_pure want_none (y_indexS Try.underlying100 Try.sizeOf30 rfl rfl rfl rfl (i := _) rfl (by omega)) rfl ?_
        refine w_pure want_none (y_load1 Try.isAgg30 hs.drop.drop rfl rfl hx) rfl ?_
        refine w_pure want_none (y_move (v := .int _ _) rfl rfl) rfl ?_
        refine w_pure want_none (y_sub rfl rfl rfl rfl (by omega) (by omega)) rfl ?_
        refine w_pure want_none (y_indexS Try.underlying30 Try.sizeOf3 rfl rfl rfl rfl (i := i - 1) (by omega) (by omega)) rfl ?_
        refine w_pure want_none (y_load1 Try.isAgg3 hs.drop.drop rfl rfl hy) rfl ?_
        refine w_pure want_none (y_add rfl rfl rfl rfl (by omega) (by omega)) rfl ?_
        refine w_pure want_none (y_assign (v := .int _ _) rfl rfl) rfl ?_
        refine w_nil ?_
        refine q_then (hC42 _ _ (Md.intro (by repeat (first | exact agree_refl | exact agree_mix | refine agree_upd rfl ?_ | refine agree_updL rfl ?_ _ | refine agree_mixin rfl ?_)) ?_))
        first
          | exact ⟨by rw [leastN_at hxl (by omega)]; rfl, hs⟩
          | exact ⟨by have hi0 : i = 0 := (by omega); have : leastN ((choices below i)[k]'hk2) = 0 := (by unfold leastN; rw [List.getLast?_eq_none_iff.2 (List.eq_nil_of_length_eq_zero (by omega))]); rw [this]; rfl, hs⟩
       ·
        try simp only [Bool.not_eq_true', Bool.not_eq_false', decide_eq_true_eq, decide_eq_false_iff_not, Int.not_lt, Int.not_le] at h46
        refine w_skip ?_
        refine q_then (hC42 _ _ (Md.intro (by repeat (first | exact agree_refl | exact agree_mix | refine agree_upd rfl ?_ | refine agree_updL rfl ?_ _ | refine agree_mixin rfl ?_)) ?_))
        first
          | exact ⟨by rw [leastN_at hxl (by omega)]; rfl, hs⟩
          | exact ⟨by have hi0 : i = 0 := (by omega); have : leastN ((choices below i)[k]'hk2) = 0 := (by unfold leastN; rw [List.getLast?_eq_none_iff.2 (List.eq_nil_of_length_eq_zero (by omega))]); rw [this]; rfl, hs⟩
      ·
       intro vs μ w47 hM
       obtain ⟨rfl, hs⟩ := hM
       refine q_then (hK40 _ _ ?_)
       refine w_seq (fun K49 hK48 => ?_)
       refine w_region ?_
       refine w_pure want_none (y_move (v := .int _ _) rfl rfl) rfl ?_
       refine w_pure want_none (y_assign (v := .int _ _) rfl rfl) rfl ?_
       refine w_nil ?_
       refine q_then (hK48 _ _ ?_)
       refine w_block ?_
       refine w_loop [7, 10, 35, 36, 37, 38, 39, 40, 41, 42, 43, 44, 45, 46, 47, 48, 49, 50, 51] [7, 10] (fun kk vs0 w => ∃ (n : Nat) (vN : Value) (NB E1 : List (Nat × Obj)) (ws : List Value), vs0 = [vN, .int .i64 n] ∧ n ≤ below ∧ leastN ((choices below i)[k]'hk2) ≤ n ∧ kk = below - n ∧ Rt.Own vN 30 1 (chTo below i k ++ nextTo ((choices below i)[k]'hk2) n).length ws NB ∧ EL w0 E1 ws (chTo below i k ++ nextTo ((choices below i)[k]'hk2) n) ∧ St w0 w (NB ++ (E1 ++ (OB ++ (E ++ F))))) (below - (leastN ((choices below i)[k]'hk2)).toNat) ?_ ?_
       ·
        have hn0 : nextTo ((choices below i)[k]'hk2) (leastN ((choices below i)[k]'hk2)).toNat = [] := nextTo_none (by omega)
        exact ⟨(leastN ((choices below i)[k]'hk2)).toNat, vN, NB, E1, ws, by rw [Int.toNat_of_nonneg hln.1]; rfl, by omega, by omega, by omega, by rw [hn0, List.append_nil]; exact hown1, by rw [hn0, List.append_nil]; exact hel1, hs⟩
       ·
        intro k vs μ w52 hI K51 hN50
        obtain ⟨n, vN, NB, E1, ws, rfl, hqa, hqb, rfl, hown2, hel2, hs⟩ := hI
        refine w_seq (fun K54 hK53 => ?_)
        refine w_seq (fun K56 hK55 => ?_)
        refine w_region ?_
        refine w_pure want_none (y_move (v := .int _ _) rfl rfl) rfl ?_
        refine w_pure want_none (y_move (v := .int _ _) rfl rfl) rfl ?_
        refine w_pure want_none (y_lss rfl rfl rfl rfl) rfl ?_
        refine w_nil ?_
        refine q_then (hK55 _ _ ?_)
        refine w_cond rfl rfl (fun h57 => ?_) (fun h57 => ?_)
        ·
         try simp only [Bool.not_eq_true', Bool.not_eq_false', decide_eq_true_eq, decide_eq_false_iff_not, Int.not_lt, Int.not_le] at h57
         refine w_skip ?_
         refine q_then (hK53 _ _ ?_)
         refine w_seq (fun K59 hK58 => ?_)
         refine w_block ?_
         have hq2 : n < below := by omega
         have hnl := nextTo_len ((choices below i)[k]'hk2) n
         have hgl : (chTo below i k).length ≤ 285311670611 := by
           have h1 := flat_le (m := below) ((choices below i).take k) (f := fun x => nextTo x below) fun x _ => nextTo_len x below
           have h2 := choices_max (below := below) (i := i + 1) hb12 (by omega)
           have h3 := List.take_append_drop k (choices below i)
           have h4 : (choices below (i + 1)).length = (chTo below i k).length + (((choices below i).drop k).flatMap fun x => nextTo x below).length := by
             rw [← List.length_append]; unfold chTo; rw [← List.flatMap_append, h3]; rfl
           omega
         refine w_region ?_
         refine w_pure want_none (y_move (v := vN) rfl rfl) rfl ?_
         refine w_bslice (ps := []) (pv := []) (cs := []) want_none rfl rfl (fun w => Try_V_fb5  w) hs (fun b60 w61 hs62 => ?_)
         refine w_pure want_none (y_move (v := .slice _ _ _) rfl rfl) rfl ?_
         refine w_pure want_none (y_move (v := .int _ _) rfl rfl) rfl ?_
         refine w_pure want_none (y_indexS Try.underlying100 Try.sizeOf30 rfl rfl rfl rfl (i := _) rfl (by omega)) rfl ?_
         refine w_pure want_none (y_load1 Try.isAgg30 hs62.tail.drop.drop rfl rfl hx) rfl ?_
         refine w_append (X := ([])) (B := [_]) (rows := (((choices below i)[k]'hk2).map fun x => [Value.int .i64 x])) (sz := 1) (bytes := 8) want_none Try.underlying30 Try_info3 rfl rfl rfl rfl rfl rfl rfl rfl rfl hs62 own_made hsx0.app.app.cons (by simp) hnx (ints_one _) (by simp only [maxLen]; omega) (by omega) (fun v63 w64 B65 ho66 hs67 => ?_)
         replace hs67 := (show St _ _ (B65 ++ (NB ++ (E1 ++ (OB ++ (E ++ (F)))))) from hs67)
         refine w_pure want_none (y_move (v := .int _ _) rfl rfl) rfl ?_
         refine w_bslice (ps := [(0, _)]) (pv := [(0, .int _ _)]) (cs := [_]) want_none rfl rfl (fun w => Try_V_fb6 _ w) hs67 (fun b68 w69 hs70 => ?_)
         refine w_append (X := (_ :: [])) (B := B65) (rows := [[_]]) (sz := 1) (bytes := 8) want_none Try.underlying30 Try_info3 rfl rfl rfl rfl rfl rfl rfl rfl rfl hs70 ho66 (sl_own (i := 0) rfl (by simp) rfl) rfl (by simp) (by simp [Value.oneCell']) (by simp only [maxLen]; omega) (by omega) (fun v71 w72 B73 ho74 hs75 => ?_)
         replace hs75 := (show St _ _ (_ :: B73 ++ (NB ++ (E1 ++ (OB ++ (E ++ (F)))))) from hs75)
         obtain ⟨a3, c3, rfl, hsl3, hn3, _⟩ := own_ints (w0 := w0) (own_ints1 ho74)
         refine w_bslice (ps := [(0, _)]) (pv := [(0, .slice _ _ _)]) (cs := [_]) want_none rfl rfl (fun w => Try_V_fb4 _ _ _ w) hs75 (fun b76 w77 hs78 => ?_)
         refine w_append (X := (_ :: _ :: B73)) (B := NB) (rows := [[_]]) (sz := 1) (bytes := 24) want_none Try.underlying100 Try_info30 rfl rfl rfl rfl rfl rfl rfl rfl rfl hs78 hown2 (sl_own (i := 0) rfl (by simp) rfl) rfl (by simp) (by simp [Value.oneCell']) (by simp only [maxLen, List.length_append]; omega) (by simp only [List.length_append]; omega) (fun v79 w80 B81 ho82 hs83 => ?_)
         replace hs83 := (show St _ _ (_ :: _ :: B73 ++ (B81 ++ (E1 ++ (OB ++ (E ++ (F)))))) from hs83)
         refine w_pure want_none (y_assign (v := v79) rfl rfl) rfl ?_
         refine w_nil ?_
         refine q_blk_normal ?_
         refine q_then (hK58 _ _ ?_)
         refine w_region ?_
         refine w_pure want_none (y_move (v := .int _ _) rfl rfl) rfl ?_
         refine w_pure want_none (y_add rfl rfl rfl rfl (by omega) (by omega)) rfl ?_
         refine w_pure want_none (y_assign (v := .int _ _) rfl rfl) rfl ?_
         refine w_nil ?_
         refine q_then (hN50 _ _ (Nx.intro (below - (n + 1)) (by omega) (by repeat (first | exact agree_mix | refine agree_upd rfl ?_ | refine agree_updL rfl ?_ _ | refine agree_mixin rfl ?_)) ?_))
         exact ⟨n + 1, _, _, B73 ++ E1, _, rfl, by omega, by omega, rfl, by rw [nextTo_succ hqb, ← List.append_assoc]; exact own_el ho82, by rw [nextTo_succ hqb, ← List.append_assoc]; exact el_more hel2 hsl3 hn3, el_perm hs83⟩
        ·
         try simp only [Bool.not_eq_true', Bool.not_eq_false', decide_eq_true_eq, decide_eq_false_iff_not, Int.not_lt, Int.not_le] at h57
         refine w_exit ?_
         refine q_then_exit ?_
         refine q_then_exit ?_
         refine q_blk_this ?_
         refine q_blk_normal ?_
         refine q_then (hK36 _ _ ?_)
         refine w_region ?_
         refine w_pure want_none (y_move (v := .int _ _) rfl rfl) rfl ?_
         refine w_pure want_none (y_add rfl rfl rfl rfl (by omega) (by omega)) rfl ?_
         refine w_pure want_none (y_assign (v := .int _ _) rfl rfl) rfl ?_
         refine w_nil ?_
         refine q_then (hN28 _ _ (Nx.intro ((choices below i).length - (k + 1)) (by omega) (by repeat (first | exact agree_mix | refine agree_upd rfl ?_ | refine agree_updL rfl ?_ _ | refine agree_mixin rfl ?_)) ?_))
         have hqb : n = below := by omega
         subst hqb
         exact ⟨k + 1, vN, NB, E1, ws, rfl, by omega, by omega, by rw [chTo_succ hk2]; exact hown2, by rw [chTo_succ hk2]; exact hel2, hs⟩
     ·
      try simp only [Bool.not_eq_true', Bool.not_eq_false', decide_eq_true_eq, decide_eq_false_iff_not, Int.not_lt, Int.not_le] at h35
      refine w_exit ?_
      refine q_then_exit ?_
      refine q_then_exit ?_
      refine q_blk_this ?_
      refine q_then (hK24 _ _ ?_)
      refine w_region ?_
      refine w_pure want_none (y_move (v := vN) rfl rfl) rfl ?_
      refine w_pure want_none (y_assign (v := vN) rfl rfl) rfl ?_
      refine w_nil ?_
      refine q_blk_normal ?_
      refine q_then (hK20 _ _ ?_)
      refine w_region ?_
      refine w_pure want_none (y_move (v := .int _ _) rfl rfl) rfl ?_
      refine w_pure want_none (y_add rfl rfl rfl rfl (by omega) (by omega)) rfl ?_
      refine w_pure want_none (y_assign (v := .int _ _) rfl rfl) rfl ?_
      refine w_nil ?_
      refine q_then (hN12 _ _ (Nx.intro (many - (i + 1)) (by omega) (by repeat (first | exact agree_mix | refine agree_upd rfl ?_ | refine agree_updL rfl ?_ _ | refine agree_mixin rfl ?_)) ?_))
      rw [chTo_all (by omega)] at hown1 hel1
      exact ⟨i + 1, vN, NB, E1, ws, rfl, by omega, rfl, hown1, hel1, (hs.perm (el_drop2 NB E1 OB E F)).drop⟩
   ·
    try simp only [Bool.not_eq_true', Bool.not_eq_false', decide_eq_true_eq, decide_eq_false_iff_not, Int.not_lt, Int.not_le] at h19
    refine w_exit ?_
    refine q_then_exit ?_
    refine q_then_exit ?_
    refine q_blk_this ?_
    refine q_then (hK8 _ _ ?_)
    refine w_seq (fun K85 hK84 => ?_)
    refine w_region ?_
    refine w_pure want_none (y_move (v := vO) rfl rfl) rfl ?_
    refine w_pure want_none (y_assign (v := vO) rfl rfl) rfl ?_
    refine w_nil ?_
    refine q_then (hK84 _ _ ?_)
    refine w_ret ?_
    refine q_ret (l := [.tmp 4]) (vs := [_]) rfl ⟨⟨rfl, show _ = (vO : Value) from rfl⟩, trivial⟩ ?_
    have hin : i = many := by omega
    subst hin
    obtain ⟨aO, cO, rfl, hslO⟩ := own_sl_id (w0 := w0) hown0 hel.1 E
    exact ⟨OB ++ E, vs, aO, cO, rfl, hslO, hel.app, by rw [List.append_assoc]; exact hs⟩

end Go.Proofs
/- Walks of this seat, printed by gen.py over the engine: what each function returns, in whatever world. No conditions but those of each contract. -/
set_option linter.unusedVariables false
set_option linter.unusedSimpArgs false
set_option maxRecDepth 20000
namespace Go.Proofs
open Go.Rt Go.Rt.Sh
attribute [local irreducible] WL WC Con Yd At Ats Sl Agree DW
theorem Try_W_fb5 (x0 : Int) (w : World) : (Instr.buildSlice 30 1 [(0, .int .i64 x0)].toArray).run Try.prog w = .ok (.slice (some ⟨w.heap.size, 0, none⟩) 1 1) (w.alloc (Go.Rt.blk 3 [.int .i64 x0])) := by kernel_rfl
theorem Try_W_fb6 (x0 : Option Addr) (l0 c0 : Nat) (w : World) : (Instr.buildSlice 100 1 [(0, .slice x0 l0 c0)].toArray).run Try.prog w = .ok (.slice (some ⟨w.heap.size, 0, none⟩) 1 1) (w.alloc (Go.Rt.blk 30 [.slice x0 l0 c0])) := by kernel_rfl
theorem rot_in {w0 w : World} {C O E F : List (Nat × Obj)} (h : St w0 w (C ++ (O ++ (E ++ F)))) : St w0 w (O ++ (E ++ (C ++ F))) := by
  have h1 := perm_mid C (O ++ E) F
  have h2 := (show St w0 w (C ++ ((O ++ E) ++ F)) by simpa only [List.append_assoc] using h).perm h1
  simpa only [List.append_assoc] using h2
theorem rot_out {w0 w : World} {C O E F : List (Nat × Obj)} (h : St w0 w (O ++ (E ++ (C ++ F)))) : St w0 w (O ++ (E ++ F)) := by
  have h1 := perm_mid (O ++ E) C F
  have h2 := (show St w0 w ((O ++ E) ++ (C ++ F)) by simpa only [List.append_assoc] using h).perm h1
  have h3 := h2.drop
  simpa only [List.append_assoc] using h3
theorem c74 {w0 w : World} {F : List (Nat × Obj)} (al : Option Addr) (cl : Nat) (l : List Int) (hll : l.length ≤ 11) (hl : Sl w0 F al 1 (l.map fun x => [Value.int .i64 x])) (hs : St w0 w F) : Con Try.prog 74 [.slice al l.length cl] w fun v w' => ∃ (B : List (Nat × Obj)) (vs : List Value) (a : Option Addr) (c : Nat), v = .slice a (setsL l).length c ∧ Sl w0 B a 1 (vs.map fun v => [v]) ∧ EL w0 B vs (setsL l) ∧ St w0 w' (B ++ F) := by
  refine con_of_wc (n := 48) Try.func74 rfl rfl (Nat.le_of_ble_eq_true rfl) ?_
  refine w_seq (fun K2 hK1 => ?_)
  refine w_region ?_
  refine w_pure want_none (y_assign (v := _) rfl rfl) rfl ?_
  refine w_nil ?_
  refine q_then (hK1 _ _ ?_)
  refine w_seq (fun K4 hK3 => ?_)
  refine w_region ?_
  refine w_pure want_none (y_assign (v := _) rfl rfl) rfl ?_
  refine w_nil ?_
  refine q_then (hK3 _ _ ?_)
  refine w_seq (fun K6 hK5 => ?_)
  refine w_seq (fun K8 hK7 => ?_)
  refine w_region ?_
  refine w_pure want_none (y_assign (v := _) rfl rfl) rfl ?_
  refine w_nil ?_
  refine q_then (hK7 _ _ ?_)
  refine w_block ?_
  refine w_loop [3, 4, 5, 6, 7, 8, 9, 10, 11, 12, 13, 14, 15, 16, 17, 18, 19, 20, 21, 22, 23, 24, 25, 26, 27, 28, 29, 30, 31, 32, 33, 34, 35, 36, 37, 38, 39, 40, 41, 42, 43, 44, 45, 46] [3, 4] (fun kk vs0 w => ∃ (k : Nat) (vO : Value) (OB E : List (Nat × Obj)) (vs : List Value), vs0 = [vO, .int .i64 k] ∧ k ≤ l.length + 1 ∧ kk = l.length + 1 - k ∧ Rt.Own vO 30 1 (setsTo l k).length vs OB ∧ EL w0 E vs (setsTo l k) ∧ St w0 w (OB ++ (E ++ F))) (l.length + 1) ?_ ?_
  ·
   exact ⟨0, _, [], [], [], rfl, by omega, by omega, own_nil 30 1, EL.nil _ _, hs⟩
  ·
   intro k vs μ w11 hI K10 hN9
   obtain ⟨k, vO, OB, E, vs, rfl, hka, rfl, hown0, hel, hs⟩ := hI
   refine w_seq (fun K13 hK12 => ?_)
   refine w_seq (fun K15 hK14 => ?_)
   refine w_region ?_
   refine w_pure want_none (y_move (v := .int _ _) rfl rfl) rfl ?_
   refine w_pure want_none (y_move (v := .slice _ _ _) rfl rfl) rfl ?_
   refine w_pure want_none (y_lenS Try.underlying30 rfl rfl) rfl ?_
   refine w_pure want_none (y_leq rfl rfl rfl rfl) rfl ?_
   refine w_nil ?_
   refine q_then (hK14 _ _ ?_)
   refine w_cond rfl rfl (fun h16 => ?_) (fun h16 => ?_)
   ·
    try simp only [Bool.not_eq_true', Bool.not_eq_false', decide_eq_true_eq, decide_eq_false_iff_not, Int.not_lt, Int.not_le] at h16
    refine w_skip ?_
    refine q_then (hK12 _ _ ?_)
    refine w_seq (fun K18 hK17 => ?_)
    refine w_block ?_
    refine w_seq (fun K20 hK19 => ?_)
    have hk11 : k ≤ 11 := by omega
    have hcm := choices_max (below := l.length) (i := k) hll (by omega)
    have hcl := choices_len (below := l.length) k
    refine w_region ?_
    refine w_pure want_none (y_move (v := .slice _ _ _) rfl rfl) rfl ?_
    refine w_pure want_none (y_lenS Try.underlying30 rfl rfl) rfl ?_
    refine w_pure want_none (y_move (v := .int _ _) rfl rfl) rfl ?_
    refine w_call want_none Try.call93 rfl rfl rfl rfl (c93 l.length k (by omega) (by omega) hs) ?_
    rintro _ w22 ⟨CB, vc, ac, cc, rfl, hslC, helC, hs23⟩
    replace hs23 := (show St _ _ (CB ++ (OB ++ (E ++ (F)))) from hs23)
    refine w_pure want_none (y_assign (v := .slice _ _ _) rfl rfl) rfl ?_
    refine w_nil ?_
    refine q_then (hK19 _ _ ?_)
    refine w_seq (fun K25 hK24 => ?_)
    refine w_region ?_
    refine w_pure want_none (y_assign (v := _) rfl rfl) rfl ?_
    refine w_nil ?_
    refine q_then (hK24 _ _ ?_)
    refine w_block ?_
    refine w_loop [3, 6, 7, 8, 19, 20, 21, 22, 23, 24, 25, 26, 27, 28, 29, 30, 31, 32, 33, 34, 35, 36, 37, 38, 39, 40, 41, 42, 43, 44, 45, 46] [3, 6] (fun kk vs0 w => ∃ (q : Nat) (vO2 : Value) (OB E : List (Nat × Obj)) (vs : List Value), vs0 = [vO2, .int .i64 q] ∧ q ≤ (choices l.length k).length ∧ kk = (choices l.length k).length - q ∧ Rt.Own vO2 30 1 (setsTo l k ++ ((choices l.length k).take q).map (pickL l)).length vs OB ∧ EL w0 E vs (setsTo l k ++ ((choices l.length k).take q).map (pickL l)) ∧ St w0 w (OB ++ (E ++ (CB ++ F)))) ((choices l.length k).length) ?_ ?_
    ·
     exact ⟨0, vO, OB, E, vs, rfl, by omega, by omega, by simpa using hown0, by simpa using hel, rot_in hs23⟩
    ·
     intro k vs μ w28 hI K27 hN26
     clear hown0 hel hs
     obtain ⟨q, vO2, OB, E, vs, rfl, hqa, rfl, hown2, hel2, hs⟩ := hI
     refine w_seq (fun K30 hK29 => ?_)
     refine w_seq (fun K32 hK31 => ?_)
     refine w_region ?_
     refine w_pure want_none (y_move (v := .int _ _) rfl rfl) rfl ?_
     refine w_pure want_none (y_move (v := .slice _ _ _) rfl rfl) rfl ?_
     refine w_pure want_none (y_lenS Try.underlying100 rfl rfl) rfl ?_
     refine w_pure want_none (y_lss rfl rfl rfl rfl) rfl ?_
     refine w_nil ?_
     refine q_then (hK31 _ _ ?_)
     refine w_cond rfl rfl (fun h33 => ?_) (fun h33 => ?_)
     ·
      try simp only [Bool.not_eq_true', Bool.not_eq_false', decide_eq_true_eq, decide_eq_false_iff_not, Int.not_lt, Int.not_le] at h33
      refine w_skip ?_
      refine q_then (hK29 _ _ ?_)
      refine w_seq (fun K35 hK34 => ?_)
      refine w_block ?_
      refine w_seq (fun K37 hK36 => ?_)
      have hq2 : q < (choices l.length k).length := by omega
      obtain ⟨bx, ox, b2, c2, hac, hx, hsx0, hnx⟩ := el_at hslC.top (helC.top (F := F)) hq2
      subst hac
      have hxl := (hcl _ (List.getElem_mem hq2)).1
      refine w_region ?_
      refine w_pure want_none (y_assign (v := _) rfl rfl) rfl ?_
      refine w_nil ?_
      refine q_then (hK36 _ _ ?_)
      refine w_seq (fun K39 hK38 => ?_)
      refine w_seq (fun K41 hK40 => ?_)
      refine w_region ?_
      refine w_pure want_none (y_assign (v := _) rfl rfl) rfl ?_
      refine w_nil ?_
      refine q_then (hK40 _ _ ?_)
      refine w_block ?_
      refine w_loop [7, 8, 25, 26, 27, 28, 29, 30, 31, 32, 33, 34, 35, 36, 37, 38, 39, 40, 41, 42] [7, 8] (fun kk vs0 w => ∃ (j : Nat) (vN : Value) (NB : List (Nat × Obj)), vs0 = [vN, .int .i64 j] ∧ j ≤ k ∧ kk = k - j ∧ Rt.Own vN 3 1 ((pickL l ((choices l.length k)[q]'hq2)).take j).length (iv ((pickL l ((choices l.length k)[q]'hq2)).take j)) NB ∧ St w0 w (NB ++ (OB ++ (E ++ (CB ++ F))))) (k) ?_ ?_
      ·
       exact ⟨0, _, [], rfl, by omega, by omega, own_nil 3 1, hs⟩
      ·
       intro k vs μ w44 hI K43 hN42
       clear hs
       obtain ⟨j, vN, NB, rfl, hja, rfl, hown3, hs⟩ := hI
       refine w_seq (fun K46 hK45 => ?_)
       refine w_seq (fun K48 hK47 => ?_)
       refine w_region ?_
       refine w_pure want_none (y_move (v := .int _ _) rfl rfl) rfl ?_
       refine w_pure want_none (y_move (v := .int _ _) rfl rfl) rfl ?_
       refine w_pure want_none (y_lss rfl rfl rfl rfl) rfl ?_
       refine w_nil ?_
       refine q_then (hK47 _ _ ?_)
       refine w_cond rfl rfl (fun h49 => ?_) (fun h49 => ?_)
       ·
        try simp only [Bool.not_eq_true', Bool.not_eq_false', decide_eq_true_eq, decide_eq_false_iff_not, Int.not_lt, Int.not_le] at h49
        refine w_skip ?_
        refine q_then (hK45 _ _ ?_)
        refine w_seq (fun K51 hK50 => ?_)
        refine w_block ?_
        have hj2 : j < ((choices l.length k)[q]'hq2).length := by omega
        obtain ⟨by_, oy, hb2, hy⟩ := sl_ints hsx0 hj2
        subst hb2
        have hyb := (hcl _ (List.getElem_mem hq2)).2 _ (List.getElem_mem hj2)
        have hz2 : (((choices l.length k)[q]'hq2)[j]'hj2).toNat < l.length := by omega
        obtain ⟨bz, oz, hbz, hz⟩ := sl_ints hl hz2
        subst hbz
        have htl : (((pickL l ((choices l.length k)[q]'hq2)).take j)).length ≤ 11 := by rw [List.length_take, pickL_len]; omega
        refine w_region ?_
        refine w_pure want_none (y_move (v := vN) rfl rfl) rfl ?_
        refine w_pure want_none (y_move (v := .slice _ _ _) rfl rfl) rfl ?_
        refine w_pure want_none (y_move (v := .slice _ _ _) rfl rfl) rfl ?_
        refine w_pure want_none (y_move (v := .int _ _) rfl rfl) rfl ?_
        refine w_pure want_none (y_indexS Try.underlying100 Try.sizeOf30 rfl rfl rfl rfl (i := _) rfl (by omega)) rfl ?_
        refine w_pure want_none (y_load1 Try.isAgg30 hs.drop.drop.drop rfl rfl hx) rfl ?_
        refine w_pure want_none (y_move (v := .int _ _) rfl rfl) rfl ?_
        refine w_pure want_none (y_indexS Try.underlying30 Try.sizeOf3 rfl rfl rfl rfl (i := _) rfl (by omega)) rfl ?_
        refine w_pure want_none (y_load1 Try.isAgg3 hs.drop.drop.drop rfl rfl hy) rfl ?_
        refine w_pure want_none (y_indexS Try.underlying30 Try.sizeOf3 rfl rfl rfl rfl (i := (((choices l.length k)[q]'hq2)[j]'hj2).toNat) (by omega) (by omega)) rfl ?_
        refine w_pure want_none (y_load1 Try.isAgg3 hs.drop.drop.drop.drop rfl rfl hz) rfl ?_
        refine w_bslice (ps := [(0, _)]) (pv := [(0, .int _ _)]) (cs := [_]) want_none rfl rfl (fun w => Try_W_fb5 _ w) hs (fun b52 w53 hs54 => ?_)
        refine w_append (X := (_ :: [])) (B := NB) (rows := [[_]]) (sz := 1) (bytes := 8) want_none Try.underlying30 Try_info3 rfl rfl rfl rfl rfl rfl rfl rfl rfl hs54 hown3 (sl_own (i := 0) rfl (by simp) rfl) rfl (by simp) (by simp [Value.oneCell']) (by simp only [maxLen]; omega) (by omega) (fun v55 w56 B57 ho58 hs59 => ?_)
        replace hs59 := (show St _ _ (_ :: B57 ++ (OB ++ (E ++ (CB ++ (F))))) from hs59)
        refine w_pure want_none (y_assign (v := v55) rfl rfl) rfl ?_
        refine w_nil ?_
        refine q_blk_normal ?_
        refine q_then (hK50 _ _ ?_)
        refine w_region ?_
        refine w_pure want_none (y_move (v := .int _ _) rfl rfl) rfl ?_
        refine w_pure want_none (y_add rfl rfl rfl rfl (by omega) (by omega)) rfl ?_
        refine w_pure want_none (y_assign (v := .int _ _) rfl rfl) rfl ?_
        refine w_nil ?_
        refine q_then (hN42 _ _ (Nx.intro (k - (j + 1)) (by omega) (by repeat (first | exact agree_mix | refine agree_upd rfl ?_ | refine agree_updL rfl ?_ _ | refine agree_mixin rfl ?_)) ?_))
        exact ⟨j + 1, _, _, rfl, by omega, rfl, by rw [pickL_step hj2 hz2]; exact own_snoc ho58, hs59.tail⟩
       ·
        try simp only [Bool.not_eq_true', Bool.not_eq_false', decide_eq_true_eq, decide_eq_false_iff_not, Int.not_lt, Int.not_le] at h49
        refine w_exit ?_
        refine q_then_exit ?_
        refine q_then_exit ?_
        refine q_blk_this ?_
        refine q_then (hK38 _ _ ?_)
        have hjk : j = k := by omega
        rw [List.take_of_length_le (by rw [pickL_len]; omega)] at hown3
        obtain ⟨a3, c3, rfl, hsl3, hn3, _⟩ := own_ints (w0 := w0) hown3
        have hsl := setsTo_len (shops := l) hll (k + 1) (by omega)
        have hgl : (setsTo l k ++ ((choices l.length k).take q).map (pickL l)).length ≤ 3423740047332 := by
          have h2 : (setsTo l (k + 1)).length = (setsTo l k).length + (choices l.length k).length := by simp [setsTo, setsMany]
          have h3 : (k + 1) * 285311670611 ≤ 12 * 285311670611 := Nat.mul_le_mul (by omega) (by omega)
          simp only [List.length_append, List.length_map, List.length_take]; omega
        refine w_region ?_
        refine w_pure want_none (y_move (v := vO2) rfl rfl) rfl ?_
        refine w_pure want_none (y_move (v := .slice _ _ _) rfl rfl) rfl ?_
        refine w_bslice (ps := [(0, _)]) (pv := [(0, .slice _ _ _)]) (cs := [_]) want_none rfl rfl (fun w => Try_W_fb6 _ _ _ w) hs (fun b60 w61 hs62 => ?_)
        refine w_append (X := (_ :: NB)) (B := OB) (rows := [[_]]) (sz := 1) (bytes := 24) want_none Try.underlying100 Try_info30 rfl rfl rfl rfl rfl rfl rfl rfl rfl hs62 hown2 (sl_own (i := 0) rfl (by simp) rfl) rfl (by simp) (by simp [Value.oneCell']) (by simp only [maxLen]; omega) (by omega) (fun v63 w64 B65 ho66 hs67 => ?_)
        replace hs67 := (show St _ _ (_ :: NB ++ (B65 ++ (E ++ (CB ++ (F))))) from hs67)
        refine w_pure want_none (y_assign (v := v63) rfl rfl) rfl ?_
        refine w_nil ?_
        refine q_blk_normal ?_
        refine q_then (hK34 _ _ ?_)
        refine w_region ?_
        refine w_pure want_none (y_move (v := .int _ _) rfl rfl) rfl ?_
        refine w_pure want_none (y_add rfl rfl rfl rfl (by omega) (by omega)) rfl ?_
        refine w_pure want_none (y_assign (v := .int _ _) rfl rfl) rfl ?_
        refine w_nil ?_
        refine q_then (hN26 _ _ (Nx.intro ((choices l.length k).length - (q + 1)) (by omega) (by repeat (first | exact agree_mix | refine agree_upd rfl ?_ | refine agree_updL rfl ?_ _ | refine agree_mixin rfl ?_)) ?_))
        exact ⟨q + 1, _, _, NB ++ E, _, rfl, by omega, by omega, by rw [sets_step hq2]; exact own_el ho66, by rw [sets_step hq2]; exact el_more hel2 hsl3 hn3, el_perm1 hs67⟩
     ·
      try simp only [Bool.not_eq_true', Bool.not_eq_false', decide_eq_true_eq, decide_eq_false_iff_not, Int.not_lt, Int.not_le] at h33
      refine w_exit ?_
      refine q_then_exit ?_
      refine q_then_exit ?_
      refine q_blk_this ?_
      refine q_blk_normal ?_
      refine q_then (hK17 _ _ ?_)
      refine w_region ?_
      refine w_pure want_none (y_move (v := .int _ _) rfl rfl) rfl ?_
      refine w_pure want_none (y_add rfl rfl rfl rfl (by omega) (by omega)) rfl ?_
      refine w_pure want_none (y_assign (v := .int _ _) rfl rfl) rfl ?_
      refine w_nil ?_
      refine q_then (hN9 _ _ (Nx.intro (l.length + 1 - (k + 1)) (by omega) (by repeat (first | exact agree_mix | refine agree_upd rfl ?_ | refine agree_updL rfl ?_ _ | refine agree_mixin rfl ?_)) ?_))
      have hqq : q = (choices l.length k).length := by omega
      subst hqq
      rw [List.take_of_length_le (Nat.le_refl _)] at hown2 hel2
      exact ⟨k + 1, vO2, OB, E, vs, rfl, by omega, by omega, hown2, hel2, rot_out hs⟩
   ·
    try simp only [Bool.not_eq_true', Bool.not_eq_false', decide_eq_true_eq, decide_eq_false_iff_not, Int.not_lt, Int.not_le] at h16
    refine w_exit ?_
    refine q_then_exit ?_
    refine q_then_exit ?_
    refine q_blk_this ?_
    refine q_then (hK5 _ _ ?_)
    refine w_seq (fun K69 hK68 => ?_)
    refine w_region ?_
    refine w_pure want_none (y_move (v := vO) rfl rfl) rfl ?_
    refine w_pure want_none (y_assign (v := vO) rfl rfl) rfl ?_
    refine w_nil ?_
    refine q_then (hK68 _ _ ?_)
    refine w_ret ?_
    refine q_ret (l := [.tmp 2]) (vs := [_]) rfl ⟨⟨rfl, show _ = (vO : Value) from rfl⟩, trivial⟩ ?_
    have hin : k = l.length + 1 := by omega
    subst hin
    obtain ⟨aO, cO, rfl, hslO⟩ := own_sl_id (w0 := w0) hown0 hel.1 E
    exact ⟨OB ++ E, vs, aO, cO, rfl, hslO, hel.app, by rw [List.append_assoc]; exact hs⟩

theorem c92 {w0 w : World} {F : List (Nat × Obj)} (m : Market) (p : At3) (hm : MIn w0 F m p) (hok : m.Ok) (ah : Option Addr) (ch : Nat) (hands : List Int) (hhl : hands.length = m.rooms.length) (hhs : Sl w0 F ah 1 (hands.map fun x => [Value.int .i64 x])) (hhb : ∀ z ∈ hands, -10000 ≤ z ∧ z ≤ 10000) (aw : Option Addr) (cw : Nat) (wants : List Int) (hwl : wants.length = m.shops.length) (hws : Sl w0 F aw 1 (wants.map fun x => [Value.int .i64 x])) (hwb : ∀ z ∈ wants, -10000 ≤ z ∧ z ≤ 10000) (as2 : Option Addr) (cs2 : Nat) (set : List Int) (hsl : set.length ≤ 4) (hss : Sl w0 F as2 1 (set.map fun x => [Value.int .i64 x])) (hsb : ∀ z ∈ set, 0 ≤ z ∧ z < m.shops.length) (fro : Nat) (hfr : fro ≤ m.trains.length) (hs : St w0 w F) :
  Con Try.prog 92 [.agg (m.cells p).toArray, .slice ah hands.length ch, .slice aw wants.length cw, .slice as2 set.length cs2, .int .i64 (fro : Int)] w fun v w' => v = .int .i64 (lackR m hands wants set fro) ∧ St w0 w' F := by
  refine con_of_wc (n := 80) Try.func92 rfl rfl (Nat.le_of_ble_eq_true rfl) ?_
  obtain ⟨ar, cr, as_, cs, at_, ct⟩ := p
  have hlr := hok.lr
  have hls := hok.ls
  have hlt := hok.lt
  have hwb4 := wantR_bound hwb set set.length
  refine w_seq (fun K2 hK1 => ?_)
  refine w_region ?_
  refine w_box (v := .agg #[.slice _ _ _, .slice _ _ _, .slice _ _ _]) (cs := [_, _, _]) want_none rfl rfl rfl hs (fun b3 w4 hs5 => ?_)
  refine w_pure want_none (y_assign (v := _) rfl rfl) rfl ?_
  refine w_nil ?_
  refine q_then (hK1 _ _ ?_)
  refine w_seq (fun K7 hK6 => ?_)
  refine w_region ?_
  refine w_pure want_none (y_assign (v := _) rfl rfl) rfl ?_
  refine w_nil ?_
  refine q_then (hK6 _ _ ?_)
  refine w_seq (fun K9 hK8 => ?_)
  refine w_seq (fun K11 hK10 => ?_)
  refine w_region ?_
  refine w_pure want_none (y_assign (v := _) rfl rfl) rfl ?_
  refine w_nil ?_
  refine q_then (hK10 _ _ ?_)
  refine w_block ?_
  refine w_loop [11, 12, 17, 18, 19, 20, 21, 22, 23, 24, 25, 26, 27, 28, 29, 30, 31] [11, 12] (fun k vs w => ∃ i : Nat, vs = [.int .i64 (wantR wants set i), .int .i64 i] ∧ i ≤ set.length ∧ k = set.length - i ∧ St w0 w ((b3, blk 26 (m.cells ⟨ar, cr, as_, cs, at_, ct⟩)) :: F)) (set.length) ?_ ?_
  ·
   exact ⟨0, rfl, by omega, by omega, hs5⟩
  ·
   intro k vs μ w14 hI K13 hN12
   obtain ⟨i, rfl, hia, rfl, hs⟩ := hI
   refine w_seq (fun K16 hK15 => ?_)
   refine w_seq (fun K18 hK17 => ?_)
   refine w_region ?_
   refine w_pure want_none (y_move (v := .int _ _) rfl rfl) rfl ?_
   refine w_pure want_none (y_move (v := .slice _ _ _) rfl rfl) rfl ?_
   refine w_pure want_none (y_lenS Try.underlying30 rfl rfl) rfl ?_
   refine w_pure want_none (y_lss rfl rfl rfl rfl) rfl ?_
   refine w_nil ?_
   refine q_then (hK17 _ _ ?_)
   refine w_cond rfl rfl (fun h19 => ?_) (fun h19 => ?_)
   ·
    try simp only [Bool.not_eq_true', Bool.not_eq_false', decide_eq_true_eq, decide_eq_false_iff_not, Int.not_lt, Int.not_le] at h19
    refine w_skip ?_
    refine q_then (hK15 _ _ ?_)
    refine w_seq (fun K21 hK20 => ?_)
    refine w_block ?_
    have hi2 : i < set.length := by omega
    obtain ⟨bx, ox, hbx, hx⟩ := sl_ints hss hi2
    subst hbx
    have hsb2 := hsb _ (List.getElem_mem hi2)
    have hj2 : (set[i]'hi2).toNat < wants.length := by omega
    obtain ⟨by_, oy, hby, hy⟩ := sl_ints hws hj2
    subst hby
    have hwb2 := hwb _ (List.getElem_mem hj2)
    have hwb3 := wantR_bound hwb set i
    refine w_region ?_
    refine w_pure want_none (y_move (v := .int _ _) rfl rfl) rfl ?_
    refine w_pure want_none (y_move (v := .slice _ _ _) rfl rfl) rfl ?_
    refine w_pure want_none (y_move (v := .slice _ _ _) rfl rfl) rfl ?_
    refine w_pure want_none (y_move (v := .int _ _) rfl rfl) rfl ?_
    refine w_pure want_none (y_indexS Try.underlying30 Try.sizeOf3 rfl rfl rfl rfl (i := _) rfl (by omega)) rfl ?_
    refine w_pure want_none (y_load1 Try.isAgg3 hs.tail rfl rfl hx) rfl ?_
    refine w_pure want_none (y_indexS Try.underlying30 Try.sizeOf3 rfl rfl rfl rfl (i := (set[i]'hi2).toNat) (by omega) (by omega)) rfl ?_
    refine w_pure want_none (y_load1 Try.isAgg3 hs.tail rfl rfl hy) rfl ?_
    refine w_pure want_none (y_add rfl rfl rfl rfl (by omega) (by omega)) rfl ?_
    refine w_pure want_none (y_assign (v := .int _ _) rfl rfl) rfl ?_
    refine w_nil ?_
    refine q_blk_normal ?_
    refine q_then (hK20 _ _ ?_)
    refine w_region ?_
    refine w_pure want_none (y_move (v := .int _ _) rfl rfl) rfl ?_
    refine w_pure want_none (y_add rfl rfl rfl rfl (by omega) (by omega)) rfl ?_
    refine w_pure want_none (y_assign (v := .int _ _) rfl rfl) rfl ?_
    refine w_nil ?_
    refine q_then (hN12 _ _ (Nx.intro (set.length - (i + 1)) (by omega) (by repeat (first | exact agree_mix | refine agree_upd rfl ?_ | refine agree_updL rfl ?_ _ | refine agree_mixin rfl ?_)) ?_))
    exact ⟨i + 1, by rw [wantR_step hi2 hj2]; rfl, by omega, rfl, hs⟩
   ·
    try simp only [Bool.not_eq_true', Bool.not_eq_false', decide_eq_true_eq, decide_eq_false_iff_not, Int.not_lt, Int.not_le] at h19
    refine w_exit ?_
    refine q_then_exit ?_
    refine q_then_exit ?_
    refine q_blk_this ?_
    refine q_then (hK8 _ _ ?_)
    refine w_seq (fun K23 hK22 => ?_)
    refine w_seq (fun K25 hK24 => ?_)
    refine w_region ?_
    refine w_pure want_none (y_assign (v := _) rfl rfl) rfl ?_
    refine w_nil ?_
    refine q_then (hK24 _ _ ?_)
    refine w_block ?_
    refine w_loop [11, 13, 14, 15, 16, 32, 33, 34, 35, 36, 37, 38, 39, 40, 41, 42, 43, 44, 45, 46, 47, 48, 49, 50, 51, 52, 53, 54, 55, 56, 57, 58, 59, 60, 61, 62, 63, 64, 65, 66, 67, 68, 69, 70, 71, 72, 73, 74, 75, 76, 77, 78] [11, 13] (fun k vs w => ∃ r : Nat, vs = [.int .i64 (wantR wants set set.length - handR m hands set fro r), .int .i64 r] ∧ r ≤ m.rooms.length ∧ k = m.rooms.length - r ∧ St w0 w ((b3, blk 26 (m.cells ⟨ar, cr, as_, cs, at_, ct⟩)) :: F)) (m.rooms.length) ?_ ?_
    ·
     have hil : i = set.length := by omega
     subst hil
     exact ⟨0, by simp only [handR, Int.sub_zero]; rfl, by omega, by omega, hs⟩
    ·
     intro k vs μ w28 hI K27 hN26
     obtain ⟨r, rfl, hra, rfl, hs⟩ := hI
     refine w_seq (fun K30 hK29 => ?_)
     refine w_seq (fun K32 hK31 => ?_)
     refine w_region ?_
     refine w_pure want_none (y_move (v := .int _ _) rfl rfl) rfl ?_
     refine w_pure want_none (y_fieldAddr (o := 0) (i := 0) Try.underlying26 rfl Try.sizeOf22 rfl rfl rfl) rfl ?_
     refine w_pure want_none (y_load1 Try.isAgg22 hs rfl rfl (ats_own (i := 0) (vs := [_]) rfl rfl)) rfl ?_
     refine w_pure want_none (y_lenS Try.underlying22 rfl rfl) rfl ?_
     refine w_pure want_none (y_lss rfl rfl rfl rfl) rfl ?_
     refine w_nil ?_
     refine q_then (hK31 _ _ ?_)
     refine w_cond rfl rfl (fun h33 => ?_) (fun h33 => ?_)
     ·
      try simp only [Bool.not_eq_true', Bool.not_eq_false', decide_eq_true_eq, decide_eq_false_iff_not, Int.not_lt, Int.not_le] at h33
      refine w_skip ?_
      refine q_then (hK29 _ _ ?_)
      refine w_seq (fun K35 hK34 => ?_)
      refine w_block ?_
      refine w_seq (fun K37 hK36 => ?_)
      have hr2 : r < hands.length := by omega
      obtain ⟨bh, oh, hbh, hh⟩ := sl_ints hhs hr2
      subst hbh
      have hhb2 := hhb _ (List.getElem_mem hr2)
      have hhb3 := handR_bound hok hhb set fro r
      refine w_region ?_
      refine w_pure want_none (y_assign (v := _) rfl rfl) rfl ?_
      refine w_nil ?_
      refine q_then (hK36 _ _ ?_)
      refine w_seq (fun K39 hK38 => ?_)
      refine w_seq (fun K41 hK40 => ?_)
      refine w_region ?_
      refine w_pure want_none (y_move (v := .int _ _) rfl rfl) rfl ?_
      refine w_pure want_none (y_assign (v := .int _ _) rfl rfl) rfl ?_
      refine w_nil ?_
      refine q_then (hK40 _ _ ?_)
      refine w_block ?_
      refine w_loop [14, 15, 16, 40, 41, 42, 43, 44, 45, 46, 47, 48, 49, 50, 51, 52, 53, 54, 55, 56, 57, 58, 59, 60, 61, 62, 63, 64, 65, 66, 67, 68, 69, 70] [14, 15] (fun k vs w => ∃ q : Nat, vs = [.int .i64 (capRf m set fro r q), .int .i64 q] ∧ fro ≤ q ∧ q ≤ m.trains.length ∧ k = m.trains.length - q ∧ St w0 w ((b3, blk 26 (m.cells ⟨ar, cr, as_, cs, at_, ct⟩)) :: F)) (m.trains.length - fro) ?_ ?_
      ·
       exact ⟨fro, by rw [capRf_zero _ _ _ _ _ (Nat.le_refl _)]; rfl, by omega, by omega, rfl, hs⟩
      ·
       intro k vs μ w44 hI K43 hN42
       obtain ⟨q, rfl, hqf, hqa, rfl, hs⟩ := hI
       refine w_seq (fun K46 hK45 => ?_)
       refine w_seq (fun K48 hK47 => ?_)
       refine w_region ?_
       refine w_pure want_none (y_move (v := .int _ _) rfl rfl) rfl ?_
       refine w_pure want_none (y_fieldAddr (o := 2) (i := 2) Try.underlying26 rfl Try.sizeOf24 rfl rfl rfl) rfl ?_
       refine w_pure want_none (y_load1 Try.isAgg24 hs rfl rfl (ats_own (i := 0) (vs := [_]) rfl rfl)) rfl ?_
       refine w_pure want_none (y_lenS Try.underlying24 rfl rfl) rfl ?_
       refine w_pure want_none (y_lss rfl rfl rfl rfl) rfl ?_
       refine w_nil ?_
       refine q_then (hK47 _ _ ?_)
       refine w_cond rfl rfl (fun h49 => ?_) (fun h49 => ?_)
       ·
        try simp only [Bool.not_eq_true', Bool.not_eq_false', decide_eq_true_eq, decide_eq_false_iff_not, Int.not_lt, Int.not_le] at h49
        refine w_skip ?_
        refine q_then (hK45 _ _ ?_)
        refine w_seq (fun K51 hK50 => ?_)
        refine w_block ?_
        refine w_seq (fun K53 hK52 => ?_)
        have hi2 : q < m.trains.length := by omega
        obtain ⟨bt, ot, hbt, ht⟩ := sl_trows hm.t hi2
        subst hbt
        have htt := hok.train _ (List.getElem_mem hi2)
        have hcb := capRf_bound hok set fro r q (by omega)
        refine w_region ?_
        refine w_pure want_none (y_fieldAddr (o := 2) (i := 2) Try.underlying26 rfl Try.sizeOf24 rfl rfl rfl) rfl ?_
        refine w_pure want_none (y_load1 Try.isAgg24 hs rfl rfl (ats_own (i := 0) (vs := [_]) rfl rfl)) rfl ?_
        refine w_pure want_none (y_move (v := .int _ _) rfl rfl) rfl ?_
        refine w_pure want_none (y_indexS Try.underlying24 Try.sizeOf63 rfl rfl rfl rfl (i := _) rfl (by omega)) rfl ?_
        refine w_pure want_none (y_loadN (vs := [_, _, _, _]) Try.isAgg63 Try.sizeOf63 hs.tail rfl rfl ht) rfl ?_
        refine w_alloc (cs := [_, _, _, _]) want_none Try.zeroValue63 rfl hs (fun b54 w55 hs56 => ?_)
        refine w_store (i := 0) (v := .agg #[.int _ _, .int _ _, .int _ _, .int _ _]) (vs := [_, _, _, _]) want_none Try.sizeOf63 rfl rfl rfl rfl rfl (by simp [Value.oneCell']) hs56 rfl (Nat.le_of_ble_eq_true rfl) (fun w57 hs58 => ?_)
        refine w_nil ?_
        refine q_then (hK52 _ _ ?_)
        refine w_seq (fun K60 hK59 => ?_)
        refine w_region ?_
        refine w_pure want_none (y_fieldAddr (o := 0) (i := 0) Try.underlying63 rfl Try.sizeOf3 rfl rfl rfl) rfl ?_
        refine w_pure want_none (y_load1 Try.isAgg3 hs58 rfl rfl (ats_own (i := 0) (vs := [_]) rfl rfl)) rfl ?_
        refine w_pure want_none (y_move (v := .int _ _) rfl rfl) rfl ?_
        refine w_pure want_none (y_eql rfl rfl rfl rfl) rfl ?_
        refine w_pure want_none (y_move (v := .bool _) rfl rfl) rfl ?_
        refine w_split (fun h61 => ?_) (fun h61 => ?_)
        ·
         try simp only [Bool.not_eq_true', Bool.not_eq_false', decide_eq_true_eq, decide_eq_false_iff_not, Int.not_lt, Int.not_le] at h61
         refine w_pure (want_yes rfl rfl rfl) (y_move (v := .slice _ _ _) rfl rfl) rfl ?_
         refine w_pure (want_yes rfl rfl rfl) (y_fieldAddr (o := 1) (i := 1) Try.underlying63 rfl Try.sizeOf3 rfl rfl rfl) rfl ?_
         refine w_pure (want_yes rfl rfl rfl) (y_load1 Try.isAgg3 hs58 rfl rfl (ats_own (i := 0) (vs := [_]) rfl rfl)) rfl ?_
         refine w_call (want_yes rfl rfl rfl) Try.call41 rfl rfl rfl rfl (c41 _ _ set (by omega) hss.cons.cons _ hs58) ?_
         rintro _ w63 ⟨rfl, hs64⟩
         refine w_pure want_none (y_pickT (v := .bool _) rfl rfl rfl rfl) rfl ?_
         refine w_pure want_none (y_move (v := .bool _) rfl rfl) rfl ?_
         refine w_split (fun h65 => ?_) (fun h65 => ?_)
         ·
          try simp only [Bool.not_eq_true', Bool.not_eq_false', decide_eq_true_eq, decide_eq_false_iff_not, Int.not_lt, Int.not_le] at h65
          refine w_pure (want_yes rfl rfl rfl) (y_loadN (vs := [_, _, _]) Try.isAgg26 Try.sizeOf26 hs64 rfl rfl (ats_own (i := 1) (vs := [_, _, _]) rfl rfl)) rfl ?_
          refine w_pure (want_yes rfl rfl rfl) (y_loadN (vs := [_, _, _, _]) Try.isAgg63 Try.sizeOf63 hs64 rfl rfl (ats_own (i := 0) (vs := [_, _, _, _]) rfl rfl)) rfl ?_
          refine w_call (want_yes rfl rfl rfl) Try.call53 rfl rfl rfl rfl (c53 m _ hm.cons.cons hok _ (List.getElem_mem hi2) hs64) ?_
          rintro _ w67 ⟨rfl, hs68⟩
          refine w_pure want_none (y_pickT (v := .bool _) rfl rfl rfl rfl) rfl ?_
          refine w_nil ?_
          refine q_then (hK59 _ _ ?_)
          refine w_cond rfl rfl (fun h69 => ?_) (fun h69 => ?_)
          ·
           try simp only [Bool.not_eq_true', Bool.not_eq_false', decide_eq_true_eq, decide_eq_false_iff_not, Int.not_lt, Int.not_le] at h69
           refine w_region ?_
           refine w_pure want_none (y_move (v := .int _ _) rfl rfl) rfl ?_
           refine w_pure want_none (y_fieldAddr (o := 3) (i := 3) Try.underlying63 rfl Try.sizeOf3 rfl rfl rfl) rfl ?_
           refine w_pure want_none (y_load1 Try.isAgg3 hs68 rfl rfl (ats_own (i := 0) (vs := [_]) rfl rfl)) rfl ?_
           refine w_pure want_none (y_add rfl rfl rfl rfl (by omega) (by omega)) rfl ?_
           refine w_pure want_none (y_assign (v := .int _ _) rfl rfl) rfl ?_
           refine w_nil ?_
           refine q_blk_normal ?_
           refine q_then (hK50 _ _ ?_)
           refine w_region ?_
           refine w_pure want_none (y_move (v := .int _ _) rfl rfl) rfl ?_
           refine w_pure want_none (y_add rfl rfl rfl rfl (by omega) (by omega)) rfl ?_
           refine w_pure want_none (y_assign (v := .int _ _) rfl rfl) rfl ?_
           refine w_nil ?_
           refine q_then (hN42 _ _ (Nx.intro (m.trains.length - (q + 1)) (by omega) (by repeat (first | exact agree_mix | refine agree_upd rfl ?_ | refine agree_updL rfl ?_ _ | refine agree_mixin rfl ?_)) ?_))
           first
             | exact ⟨q + 1, by rw [capRf_yes hi2 ⟨hqf, by omega, by assumption, by assumption⟩]; rfl, by omega, by omega, rfl, hs68.tail⟩
             | exact ⟨q + 1, by rw [capRf_no hi2 (fun h => by first | exact absurd h.1 (by omega) | exact absurd h.2.1 (by omega) | (have h8 := h.2.2.1; have h9 := h.2.2.2; simp_all))]; rfl, by omega, by omega, rfl, hs68.tail⟩
          ·
           try simp only [Bool.not_eq_true', Bool.not_eq_false', decide_eq_true_eq, decide_eq_false_iff_not, Int.not_lt, Int.not_le] at h69
           refine w_skip ?_
           refine q_blk_normal ?_
           refine q_then (hK50 _ _ ?_)
           refine w_region ?_
           refine w_pure want_none (y_move (v := .int _ _) rfl rfl) rfl ?_
           refine w_pure want_none (y_add rfl rfl rfl rfl (by omega) (by omega)) rfl ?_
           refine w_pure want_none (y_assign (v := .int _ _) rfl rfl) rfl ?_
           refine w_nil ?_
           refine q_then (hN42 _ _ (Nx.intro (m.trains.length - (q + 1)) (by omega) (by repeat (first | exact agree_mix | refine agree_upd rfl ?_ | refine agree_updL rfl ?_ _ | refine agree_mixin rfl ?_)) ?_))
           first
             | exact ⟨q + 1, by rw [capRf_yes hi2 ⟨hqf, by omega, by assumption, by assumption⟩]; rfl, by omega, by omega, rfl, hs68.tail⟩
             | exact ⟨q + 1, by rw [capRf_no hi2 (fun h => by first | exact absurd h.1 (by omega) | exact absurd h.2.1 (by omega) | (have h8 := h.2.2.1; have h9 := h.2.2.2; simp_all))]; rfl, by omega, by omega, rfl, hs68.tail⟩
         ·
          try simp only [Bool.not_eq_true', Bool.not_eq_false', decide_eq_true_eq, decide_eq_false_iff_not, Int.not_lt, Int.not_le] at h65
          refine w_skipop rfl rfl rfl ?_
          refine w_skipop rfl rfl rfl ?_
          refine w_skipop rfl rfl rfl ?_
          refine w_pure want_none (y_pickF (v := _) rfl rfl rfl rfl) rfl ?_
          refine w_nil ?_
          refine q_then (hK59 _ _ ?_)
          refine w_condF rfl rfl ?_
          refine w_skip ?_
          refine q_blk_normal ?_
          refine q_then (hK50 _ _ ?_)
          refine w_region ?_
          refine w_pure want_none (y_move (v := .int _ _) rfl rfl) rfl ?_
          refine w_pure want_none (y_add rfl rfl rfl rfl (by omega) (by omega)) rfl ?_
          refine w_pure want_none (y_assign (v := .int _ _) rfl rfl) rfl ?_
          refine w_nil ?_
          refine q_then (hN42 _ _ (Nx.intro (m.trains.length - (q + 1)) (by omega) (by repeat (first | exact agree_mix | refine agree_upd rfl ?_ | refine agree_updL rfl ?_ _ | refine agree_mixin rfl ?_)) ?_))
          first
            | exact ⟨q + 1, by rw [capRf_yes hi2 ⟨hqf, by omega, by assumption, by assumption⟩]; rfl, by omega, by omega, rfl, hs64.tail⟩
            | exact ⟨q + 1, by rw [capRf_no hi2 (fun h => by first | exact absurd h.1 (by omega) | exact absurd h.2.1 (by omega) | (have h8 := h.2.2.1; have h9 := h.2.2.2; simp_all))]; rfl, by omega, by omega, rfl, hs64.tail⟩
        ·
         try simp only [Bool.not_eq_true', Bool.not_eq_false', decide_eq_true_eq, decide_eq_false_iff_not, Int.not_lt, Int.not_le] at h61
         refine w_skipop rfl rfl rfl ?_
         refine w_skipop rfl rfl rfl ?_
         refine w_skipop rfl rfl rfl ?_
         refine w_skipop rfl rfl rfl ?_
         refine w_pure want_none (y_pickF (v := _) rfl rfl rfl rfl) rfl ?_
         refine w_pure want_none (y_move (v := .bool _) rfl rfl) rfl ?_
         refine w_skipop rfl rfl rfl ?_
         refine w_skipop rfl rfl rfl ?_
         refine w_skipop rfl rfl rfl ?_
         refine w_pure want_none (y_pickF (v := _) rfl rfl rfl rfl) rfl ?_
         refine w_nil ?_
         refine q_then (hK59 _ _ ?_)
         refine w_condF rfl rfl ?_
         refine w_skip ?_
         refine q_blk_normal ?_
         refine q_then (hK50 _ _ ?_)
         refine w_region ?_
         refine w_pure want_none (y_move (v := .int _ _) rfl rfl) rfl ?_
         refine w_pure want_none (y_add rfl rfl rfl rfl (by omega) (by omega)) rfl ?_
         refine w_pure want_none (y_assign (v := .int _ _) rfl rfl) rfl ?_
         refine w_nil ?_
         refine q_then (hN42 _ _ (Nx.intro (m.trains.length - (q + 1)) (by omega) (by repeat (first | exact agree_mix | refine agree_upd rfl ?_ | refine agree_updL rfl ?_ _ | refine agree_mixin rfl ?_)) ?_))
         first
           | exact ⟨q + 1, by rw [capRf_yes hi2 ⟨hqf, by omega, by assumption, by assumption⟩]; rfl, by omega, by omega, rfl, hs58.tail⟩
           | exact ⟨q + 1, by rw [capRf_no hi2 (fun h => by first | exact absurd h.1 (by omega) | exact absurd h.2.1 (by omega) | (have h8 := h.2.2.1; have h9 := h.2.2.2; simp_all))]; rfl, by omega, by omega, rfl, hs58.tail⟩
       ·
        try simp only [Bool.not_eq_true', Bool.not_eq_false', decide_eq_true_eq, decide_eq_false_iff_not, Int.not_lt, Int.not_le] at h49
        refine w_exit ?_
        refine q_then_exit ?_
        refine q_then_exit ?_
        refine q_blk_this ?_
        refine q_then (hK38 _ _ ?_)
        have hcb := capRf_bound hok set fro r q (by omega)
        refine w_region ?_
        refine w_pure want_none (y_move (v := .int _ _) rfl rfl) rfl ?_
        refine w_pure want_none (y_move (v := .slice _ _ _) rfl rfl) rfl ?_
        refine w_pure want_none (y_move (v := .int _ _) rfl rfl) rfl ?_
        refine w_pure want_none (y_indexS Try.underlying30 Try.sizeOf3 rfl rfl rfl rfl (i := _) rfl (by omega)) rfl ?_
        refine w_pure want_none (y_load1 Try.isAgg3 hs.tail rfl rfl hh) rfl ?_
        refine w_pure want_none (y_move (v := .int _ _) rfl rfl) rfl ?_
        refine w_pure want_none (y_min2 rfl rfl rfl rfl) rfl ?_
        refine w_pure want_none (y_sub rfl rfl rfl rfl (by omega) (by omega)) rfl ?_
        refine w_pure want_none (y_assign (v := .int _ _) rfl rfl) rfl ?_
        refine w_nil ?_
        refine q_blk_normal ?_
        refine q_then (hK34 _ _ ?_)
        refine w_region ?_
        refine w_pure want_none (y_move (v := .int _ _) rfl rfl) rfl ?_
        refine w_pure want_none (y_add rfl rfl rfl rfl (by omega) (by omega)) rfl ?_
        refine w_pure want_none (y_assign (v := .int _ _) rfl rfl) rfl ?_
        refine w_nil ?_
        refine q_then (hN26 _ _ (Nx.intro (m.rooms.length - (r + 1)) (by omega) (by repeat (first | exact agree_mix | refine agree_upd rfl ?_ | refine agree_updL rfl ?_ _ | refine agree_mixin rfl ?_)) ?_))
        have hqt : q = m.trains.length := by omega
        subst hqt
        exact ⟨r + 1, by rw [handR_step hr2, ← Int.sub_sub]; rfl, by omega, rfl, hs⟩
     ·
      try simp only [Bool.not_eq_true', Bool.not_eq_false', decide_eq_true_eq, decide_eq_false_iff_not, Int.not_lt, Int.not_le] at h33
      refine w_exit ?_
      refine q_then_exit ?_
      refine q_then_exit ?_
      refine q_blk_this ?_
      refine q_then (hK22 _ _ ?_)
      refine w_seq (fun K71 hK70 => ?_)
      refine w_region ?_
      refine w_pure want_none (y_move (v := .int _ _) rfl rfl) rfl ?_
      refine w_pure want_none (y_assign (v := .int _ _) rfl rfl) rfl ?_
      refine w_nil ?_
      refine q_then (hK70 _ _ ?_)
      refine w_ret ?_
      refine q_ret (l := [.tmp 10]) (vs := [_]) rfl ⟨⟨rfl, show _ = (.int _ _ : Value) from rfl⟩, trivial⟩ ?_
      have hrr : r = m.rooms.length := by omega
      subst hrr
      exact ⟨rfl, hs.tail⟩

theorem c71 {w0 w : World} {F : List (Nat × Obj)} (m : Market) (p : At3) (hm : MIn w0 F m p) (hok : m.Ok) (ah : Option Addr) (ch : Nat) (hands : List Int) (hhl : hands.length = m.rooms.length) (hhs : Sl w0 F ah 1 (hands.map fun x => [Value.int .i64 x])) (hhb : ∀ z ∈ hands, -10000 ≤ z ∧ z ≤ 10000) (aw : Option Addr) (cw : Nat) (wants : List Int) (hwl : wants.length = m.shops.length) (hws : Sl w0 F aw 1 (wants.map fun x => [Value.int .i64 x])) (hwb : ∀ z ∈ wants, -10000 ≤ z ∧ z ≤ 10000) (al : Option Addr) (cl : Nat) (l : List Int) (hll : l.length ≤ 4) (hl : Sl w0 F al 1 (l.map fun x => [Value.int .i64 x])) (hlb : ∀ z ∈ l, 0 ≤ z ∧ z < m.shops.length) (fro : Nat) (hfr : fro ≤ m.trains.length) (hs : St w0 w F) :
  Con Try.prog 71 [.agg (m.cells p).toArray, .slice ah hands.length ch, .slice aw wants.length cw, .slice al l.length cl, .int .i64 (fro : Int)] w fun v w' => ∃ B a c, v = .tuple #[.slice a (worstR m hands wants l fro).1.length c, .int .i64 (worstR m hands wants l fro).2] ∧ Sl w0 B a 1 ((worstR m hands wants l fro).1.map fun x => [Value.int .i64 x]) ∧ St w0 w' (B ++ F) := by
  refine con_of_wc (n := 44) Try.func71 rfl rfl (Nat.le_of_ble_eq_true rfl) ?_
  have hsm := setsL_max (shops := l) (by omega)
  have hsp := setsL_pos l
  have htb := topTo_bound (f := fun s => lackR m hands wants s fro) (all := setsL l) (fun s hs => (lackR_bound hok hhb hwb (by have := (setsL_in hs).1; omega) fro).2)
  refine w_seq (fun K2 hK1 => ?_)
  refine w_region ?_
  refine w_box (v := .agg #[.slice _ _ _, .slice _ _ _, .slice _ _ _]) (cs := [_, _, _]) want_none rfl rfl rfl hs (fun b3 w4 hs5 => ?_)
  refine w_pure want_none (y_assign (v := _) rfl rfl) rfl ?_
  refine w_pure want_none (y_assign (v := _) rfl rfl) rfl ?_
  refine w_nil ?_
  refine q_then (hK1 _ _ ?_)
  refine w_seq (fun K7 hK6 => ?_)
  refine w_region ?_
  refine w_pure want_none (y_move (v := .slice _ _ _) rfl rfl) rfl ?_
  refine w_call want_none Try.call74 rfl rfl rfl rfl (c74 _ _ l (by omega) hl.cons hs5) ?_
  rintro _ w9 ⟨SB, vs, as2, cs2, rfl, hslS, helS, hs10⟩
  replace hs10 := (show St _ _ (SB ++ (_ :: F)) from hs10)
  have hbx : Ats w0 ((b3, blk 26 (m.cells p)) :: F) b3 0 (m.cells p) := ats_own (i := 0) (vs := m.cells p) rfl rfl
  refine w_pure want_none (y_assign (v := .slice _ _ _) rfl rfl) rfl ?_
  refine w_nil ?_
  refine q_then (hK6 _ _ ?_)
  refine w_seq (fun K12 hK11 => ?_)
  refine w_region ?_
  refine w_pure want_none (y_assign (v := _) rfl rfl) rfl ?_
  refine w_nil ?_
  refine q_then (hK11 _ _ ?_)
  refine w_seq (fun K14 hK13 => ?_)
  refine w_region ?_
  refine w_pure want_none (y_assign (v := _) rfl rfl) rfl ?_
  refine w_nil ?_
  refine q_then (hK13 _ _ ?_)
  refine w_seq (fun K16 hK15 => ?_)
  refine w_seq (fun K18 hK17 => ?_)
  refine w_region ?_
  refine w_pure want_none (y_assign (v := _) rfl rfl) rfl ?_
  refine w_nil ?_
  refine q_then (hK17 _ _ ?_)
  refine w_block ?_
  refine w_loop [13, 14, 15, 16, 19, 20, 21, 22, 23, 24, 25, 26, 27, 28, 29, 30, 31, 32, 33, 34, 35, 36, 37, 38, 39, 40, 41] [13, 14, 15] (fun kk vs0 w => ∃ (i : Nat) (ab : Option Addr) (cb : Nat), vs0 = [.slice ab (topTo (fun s => lackR m hands wants s fro) (setsL l) i).1.length cb, .int .i64 (topTo (fun s => lackR m hands wants s fro) (setsL l) i).2, .int .i64 i] ∧ 1 ≤ i ∧ i ≤ (setsL l).length ∧ kk = (setsL l).length - i ∧ Sl w0 SB ab 1 ((topTo (fun s => lackR m hands wants s fro) (setsL l) i).1.map fun x => [Value.int .i64 x]) ∧ St w0 w (SB ++ ((b3, blk 26 (m.cells p)) :: F))) ((setsL l).length - 1) ?_ ?_
  ·
   exact ⟨1, none, 0, rfl, by omega, by omega, rfl, Sl.nil _ _, hs10⟩
  ·
   intro k vs μ w21 hI K20 hN19
   obtain ⟨i, ab, cb, rfl, hi1, hia, rfl, hsb, hs⟩ := hI
   refine w_seq (fun K23 hK22 => ?_)
   refine w_seq (fun K25 hK24 => ?_)
   refine w_region ?_
   refine w_pure want_none (y_move (v := .int _ _) rfl rfl) rfl ?_
   refine w_pure want_none (y_move (v := .slice _ _ _) rfl rfl) rfl ?_
   refine w_pure want_none (y_lenS Try.underlying100 rfl rfl) rfl ?_
   refine w_pure want_none (y_lss rfl rfl rfl rfl) rfl ?_
   refine w_nil ?_
   refine q_then (hK24 _ _ ?_)
   refine w_cond rfl rfl (fun h26 => ?_) (fun h26 => ?_)
   ·
    try simp only [Bool.not_eq_true', Bool.not_eq_false', decide_eq_true_eq, decide_eq_false_iff_not, Int.not_lt, Int.not_le] at h26
    refine w_skip ?_
    refine q_then (hK22 _ _ ?_)
    refine w_seq (fun K28 hK27 => ?_)
    refine w_block ?_
    refine w_seq (fun K30 hK29 => ?_)
    have hi2 : i < (setsL l).length := by omega
    obtain ⟨bx, ox, b2, c2, hac, hx, hsx1, hnx⟩ := el_at hslS helS hi2
    subst hac
    have hx0 := hx.top (F := (b3, blk 26 (m.cells p)) :: F)
    have hsx0 := hsx1.top (F := (b3, blk 26 (m.cells p)) :: F)
    have hsi := setsL_in (List.getElem_mem hi2)
    have hlk := lackR_bound hok hhb hwb (set := (setsL l)[i]'hi2) (by omega) fro
    have htb2 := htb i
    refine w_draw [] [(0, 1), (1, 0), (2, 0), (3, 0), (4, 0), (5, 0), (6, 1), (7, 0), (8, 2), (9, 0)] Try_mo (by kernel_rfl) hs (fun w31 hs32 => ?_)
    refine d_take rfl want_none rfl hs32 (fun _ hq => (y_loadN (vs := [_, _, _]) Try.isAgg26 Try.sizeOf26 hq.drop rfl rfl hbx)) ?_
    refine d_any rfl want_none rfl (fun _ => (y_move (v := .slice _ _ _) rfl rfl)) ?_
    refine d_any rfl want_none rfl (fun _ => (y_move (v := .slice _ _ _) rfl rfl)) ?_
    refine d_any rfl want_none rfl (fun _ => (y_move (v := .slice _ _ _) rfl rfl)) ?_
    refine d_any rfl want_none rfl (fun _ => (y_move (v := .int _ _) rfl rfl)) ?_
    refine d_any rfl want_none rfl (fun _ => (y_indexS Try.underlying100 Try.sizeOf30 rfl rfl rfl rfl (i := _) rfl (by omega))) ?_
    refine d_take rfl want_none rfl hs32 (fun _ hq => (y_load1 Try.isAgg30 hq rfl rfl hx0)) ?_
    refine d_any rfl want_none rfl (fun _ => (y_move (v := .int _ _) rfl rfl)) ?_
    refine d_eff rfl ?_
    refine w_call want_none Try.call92 rfl rfl rfl rfl (c92 m p hm.cons.app hok _ _ hands hhl hhs.cons.app hhb _ _ wants hwl hws.cons.app hwb _ _ ((setsL l)[i]'hi2) (by omega) hsx0 (fun z hz => hlb z (hsi.2 z hz)) fro hfr hs32) ?_
    rintro _ w34 ⟨rfl, hs35⟩
    refine w_nil ?_
    refine qn ⟨hs35, ?_⟩
    refine d_any rfl want_none rfl (fun _ => (y_assign (v := .int _ _) rfl rfl)) ?_
    refine d_nil ?_
    refine q_then (hK29 _ _ ?_)
    refine w_seq (fun K37 hK36 => ?_)
    refine w_region ?_
    refine w_pure want_none (y_move (v := .int _ _) rfl rfl) rfl ?_
    refine w_pure want_none (y_move (v := .int _ _) rfl rfl) rfl ?_
    refine w_pure want_none (y_gtr rfl rfl rfl rfl) rfl ?_
    refine w_nil ?_
    refine q_then (hK36 _ _ ?_)
    refine w_cond rfl rfl (fun h38 => ?_) (fun h38 => ?_)
    ·
     try simp only [Bool.not_eq_true', Bool.not_eq_false', decide_eq_true_eq, decide_eq_false_iff_not, Int.not_lt, Int.not_le] at h38
     refine w_region ?_
     refine w_pure want_none (y_move (v := .slice _ _ _) rfl rfl) rfl ?_
     refine w_pure want_none (y_move (v := .int _ _) rfl rfl) rfl ?_
     refine w_pure want_none (y_indexS Try.underlying100 Try.sizeOf30 rfl rfl rfl rfl (i := _) rfl (by omega)) rfl ?_
     refine w_pure want_none (y_load1 Try.isAgg30 hs35 rfl rfl hx0) rfl ?_
     refine w_pure want_none (y_move (v := .int _ _) rfl rfl) rfl ?_
     refine w_pure want_none (y_assign (v := .slice _ _ _) rfl rfl) rfl ?_
     refine w_pure want_none (y_assign (v := .int _ _) rfl rfl) rfl ?_
     refine w_nil ?_
     refine q_blk_normal ?_
     refine q_then (hK27 _ _ ?_)
     refine w_region ?_
     refine w_pure want_none (y_move (v := .int _ _) rfl rfl) rfl ?_
     refine w_pure want_none (y_add rfl rfl rfl rfl (by omega) (by omega)) rfl ?_
     refine w_pure want_none (y_assign (v := .int _ _) rfl rfl) rfl ?_
     refine w_nil ?_
     refine q_then (hN19 _ _ (Nx.intro ((setsL l).length - (i + 1)) (by omega) (by repeat (first | exact agree_mix | refine agree_upd rfl ?_ | refine agree_updL rfl ?_ _ | refine agree_mixin rfl ?_)) ?_))
     first
       | exact ⟨i + 1, b2, c2, by rw [topTo_succ hi1 hi2]; unfold topStep; rw [if_pos (by assumption)]; rfl, by omega, by omega, rfl, by rw [topTo_succ hi1 hi2]; unfold topStep; rw [if_pos (by assumption)]; exact hsx1, hs35⟩
       | exact ⟨i + 1, ab, cb, by rw [topTo_succ hi1 hi2]; unfold topStep; rw [if_neg (by dsimp only; omega)]; rfl, by omega, by omega, rfl, by rw [topTo_succ hi1 hi2]; unfold topStep; rw [if_neg (by dsimp only; omega)]; exact hsb, hs35⟩
    ·
     try simp only [Bool.not_eq_true', Bool.not_eq_false', decide_eq_true_eq, decide_eq_false_iff_not, Int.not_lt, Int.not_le] at h38
     refine w_skip ?_
     refine q_blk_normal ?_
     refine q_then (hK27 _ _ ?_)
     refine w_region ?_
     refine w_pure want_none (y_move (v := .int _ _) rfl rfl) rfl ?_
     refine w_pure want_none (y_add rfl rfl rfl rfl (by omega) (by omega)) rfl ?_
     refine w_pure want_none (y_assign (v := .int _ _) rfl rfl) rfl ?_
     refine w_nil ?_
     refine q_then (hN19 _ _ (Nx.intro ((setsL l).length - (i + 1)) (by omega) (by repeat (first | exact agree_mix | refine agree_upd rfl ?_ | refine agree_updL rfl ?_ _ | refine agree_mixin rfl ?_)) ?_))
     first
       | exact ⟨i + 1, b2, c2, by rw [topTo_succ hi1 hi2]; unfold topStep; rw [if_pos (by assumption)]; rfl, by omega, by omega, rfl, by rw [topTo_succ hi1 hi2]; unfold topStep; rw [if_pos (by assumption)]; exact hsx1, hs35⟩
       | exact ⟨i + 1, ab, cb, by rw [topTo_succ hi1 hi2]; unfold topStep; rw [if_neg (by dsimp only; omega)]; rfl, by omega, by omega, rfl, by rw [topTo_succ hi1 hi2]; unfold topStep; rw [if_neg (by dsimp only; omega)]; exact hsb, hs35⟩
   ·
    try simp only [Bool.not_eq_true', Bool.not_eq_false', decide_eq_true_eq, decide_eq_false_iff_not, Int.not_lt, Int.not_le] at h26
    refine w_exit ?_
    refine q_then_exit ?_
    refine q_then_exit ?_
    refine q_blk_this ?_
    refine q_then (hK15 _ _ ?_)
    refine w_seq (fun K40 hK39 => ?_)
    refine w_region ?_
    refine w_pure want_none (y_move (v := .slice _ _ _) rfl rfl) rfl ?_
    refine w_pure want_none (y_move (v := .int _ _) rfl rfl) rfl ?_
    refine w_pure want_none (y_assign (v := .slice _ _ _) rfl rfl) rfl ?_
    refine w_pure want_none (y_assign (v := .int _ _) rfl rfl) rfl ?_
    refine w_nil ?_
    refine q_then (hK39 _ _ ?_)
    refine w_ret ?_
    refine q_ret (l := [.tmp 10, .tmp 11]) (vs := [_, _]) rfl ⟨⟨rfl, show _ = (.slice _ _ _ : Value) from rfl⟩, ⟨rfl, show _ = (.int _ _ : Value) from rfl⟩, trivial⟩ ?_
    have hil : i = (setsL l).length := by omega
    subst hil
    exact ⟨SB ++ [_], ab, cb, rfl, hsb.top, by rw [List.append_assoc]; exact hs⟩

end Go.Proofs
/- Walks of this seat, printed by gen.py over the engine: what each function returns, in whatever world. No conditions but those of each contract. -/
set_option linter.unusedVariables false
set_option linter.unusedSimpArgs false
set_option maxRecDepth 20000
namespace Go.Proofs
open Go.Rt Go.Rt.Sh
attribute [local irreducible] WL WC Con Yd At Ats Sl Agree DW

theorem c49 {w0 w : World} {F : List (Nat × Obj)} (m : Market) (p : At3) (hm : MIn w0 F m p) (hok : m.Ok) (ah : Option Addr) (ch : Nat) (hands : List Int) (hhl : hands.length = m.rooms.length) (hhs : Sl w0 F ah 1 (hands.map fun x => [Value.int .i64 x])) (hhb : ∀ z ∈ hands, -10000 ≤ z ∧ z ≤ 10000) (al : Option Addr) (cl : Nat) (l : List Int) (hll : l.length ≤ 4) (hl : Sl w0 F al 1 (l.map fun x => [Value.int .i64 x])) (hlb : ∀ z ∈ l, 0 ≤ z ∧ z < m.shops.length)  (hs : St w0 w F) :
  Con Try.prog 49 [.agg (m.cells p).toArray, .slice ah hands.length ch, .slice al l.length cl] w fun v w' => v = .bool (servedR m hands l) ∧ St w0 w' F := by
  refine con_of_wc (n := 20) Try.func49 rfl rfl (Nat.le_of_ble_eq_true rfl) ?_
  refine w_seq (fun K2 hK1 => ?_)
  refine w_region ?_
  refine w_box (v := .agg #[.slice _ _ _, .slice _ _ _, .slice _ _ _]) (cs := [_, _, _]) want_none rfl rfl rfl hs (fun b3 w4 hs5 => ?_)
  refine w_pure want_none (y_assign (v := _) rfl rfl) rfl ?_
  refine w_nil ?_
  refine q_then (hK1 _ _ ?_)
  refine w_seq (fun K7 hK6 => ?_)
  have hbx : Ats w0 ((b3, blk 26 (m.cells p)) :: F) b3 0 (m.cells p) := ats_own (i := 0) (vs := m.cells p) rfl rfl
  refine w_draw [] [(0, 1), (1, 0), (2, 1), (4, 0), (3, 2), (5, 2), (6, 0), (7, 0), (8, 0), (9, 0), (10, 0)] Try_mo (by kernel_rfl) hs5 (fun w8 hs9 => ?_)
  refine d_take rfl want_none rfl hs9 (fun _ hq => (y_loadN (vs := [_, _, _]) Try.isAgg26 Try.sizeOf26 hq rfl rfl hbx)) ?_
  refine d_any rfl want_none rfl (fun _ => (y_move (v := .slice _ _ _) rfl rfl)) ?_
  refine d_take rfl want_none rfl hs9 (fun _ hq => (y_loadN (vs := [_, _, _]) Try.isAgg26 Try.sizeOf26 hq rfl rfl hbx)) ?_
  refine d_any rfl want_none rfl (fun _ => (y_move (v := .slice _ _ _) rfl rfl)) ?_
  refine d_eff rfl ?_
  refine w_call want_none Try.call72 rfl rfl rfl rfl (c72 m _ hm.cons hok  hs9) ?_
  rintro _ w11 ⟨BW, a_BW, c_BW, rfl, hs_BW, hs12⟩
  replace hs12 := (show St _ _ (BW ++ (_ :: F)) from hs12)
  refine w_nil ?_
  refine qn ⟨hs12.drop, ?_⟩
  refine d_eff rfl ?_
  refine w_call want_none Try.call71 rfl rfl rfl rfl (c71 m _ hm.cons.app hok _ _ hands hhl hhs.cons.app hhb _ _ (wantsL m) (List.length_map _) hs_BW.top (wantsL_in hok) _ _ l (by omega) hl.cons.app hlb 0 (Nat.zero_le _) hs12) ?_
  rintro _ w14 ⟨BX, aX, cX, rfl, hsX, hs15⟩
  replace hs15 := (show St _ _ (BX ++ (BW ++ (_ :: F))) from hs15)
  refine w_nil ?_
  refine qn ⟨hs15.drop.drop, ?_⟩
  refine d_any rfl want_none rfl (fun _ => (y_move (v := .tuple _) rfl rfl)) ?_
  refine d_any rfl want_none rfl (fun _ => (y_extract (v := .slice _ _ _) rfl rfl rfl)) ?_
  refine d_any rfl want_none rfl (fun _ => (y_extract (v := .int _ _) rfl rfl rfl)) ?_
  refine d_any rfl want_none rfl (fun _ => (y_assign (v := .slice _ _ _) rfl rfl)) ?_
  refine d_any rfl want_none rfl (fun _ => (y_assign (v := .int _ _) rfl rfl)) ?_
  refine d_nil ?_
  refine q_then (hK6 _ _ ?_)
  refine w_seq (fun K17 hK16 => ?_)
  refine w_region ?_
  refine w_pure want_none (y_move (v := .int _ _) rfl rfl) rfl ?_
  refine w_pure want_none (y_eql rfl rfl rfl rfl) rfl ?_
  refine w_pure want_none (y_assign (v := .bool _) rfl rfl) rfl ?_
  refine w_nil ?_
  refine q_then (hK16 _ _ ?_)
  refine w_ret ?_
  refine q_ret (l := [.tmp 6]) (vs := [_]) rfl ⟨⟨rfl, show _ = (.bool _ : Value) from rfl⟩, trivial⟩ ?_
  exact ⟨rfl, hs15.drop.drop.tail⟩

theorem c69 {w0 w : World} {F : List (Nat × Obj)} (m : Market) (p : At3) (hm : MIn w0 F m p) (al : Option Addr) (cl : Nat) (l : List Int) (hll : l.length ≤ 9223372036854775807) (hl : Sl w0 F al 1 (l.map fun x => [Value.int .i64 x]))  (hs : St w0 w F) :
  Con Try.prog 69 [.agg (m.cells p).toArray, .slice al l.length cl] w fun v w' => v = .int .i64 (askedE m l) ∧ St w0 w' F := by
  refine con_of_wc (n := 46) Try.func69 rfl rfl (Nat.le_of_ble_eq_true rfl) ?_
  obtain ⟨ar, cr, as_, cs, at_, ct⟩ := p
  have hls := hm.ls
  refine w_seq (fun K2 hK1 => ?_)
  refine w_region ?_
  refine w_box (v := .agg #[.slice _ _ _, .slice _ _ _, .slice _ _ _]) (cs := [_, _, _]) want_none rfl rfl rfl hs (fun b3 w4 hs5 => ?_)
  refine w_pure want_none (y_assign (v := _) rfl rfl) rfl ?_
  refine w_nil ?_
  refine q_then (hK1 _ _ ?_)
  refine w_seq (fun K7 hK6 => ?_)
  refine w_region ?_
  refine w_pure want_none (y_loadN (vs := [_, _, _]) Try.isAgg26 Try.sizeOf26 hs5 rfl rfl (ats_own (i := 0) (vs := [_, _, _]) rfl rfl)) rfl ?_
  refine w_call want_none Try.call17 rfl rfl rfl rfl (c17 m _ hm.cons hs5) ?_
  rintro _ w9 ⟨rfl, hs10⟩
  refine w_pure want_none (y_move (v := .tuple _) rfl rfl) rfl ?_
  refine w_pure want_none (y_extract (v := .int _ _) rfl rfl rfl) rfl ?_
  refine w_pure want_none (y_extract (v := .int _ _) rfl rfl rfl) rfl ?_
  refine w_pure want_none (y_extract (v := .int _ _) rfl rfl rfl) rfl ?_
  refine w_pure want_none (y_assign (v := .int _ _) rfl rfl) rfl ?_
  refine w_pure want_none (y_assign (v := .int _ _) rfl rfl) rfl ?_
  refine w_pure want_none (y_assign (v := .int _ _) rfl rfl) rfl ?_
  refine w_nil ?_
  refine q_then (hK6 _ _ ?_)
  refine w_seq (fun K12 hK11 => ?_)
  refine w_seq (fun K14 hK13 => ?_)
  refine w_region ?_
  refine w_pure want_none (y_assign (v := _) rfl rfl) rfl ?_
  refine w_nil ?_
  refine q_then (hK13 _ _ ?_)
  refine w_block ?_
  refine w_loop [7, 8, 15, 16, 17, 18, 19, 20, 21, 22, 23, 24, 25, 26, 27, 28, 29, 30, 31, 32, 33, 34] [7, 8] (fun k vs w => ∃ i : Nat, vs = [.int .i64 (askTo m l i), .int .i64 i] ∧ i ≤ l.length ∧ k = l.length - i ∧ St w0 w ((b3, blk 26 (m.cells ⟨ar, cr, as_, cs, at_, ct⟩)) :: F)) (l.length) ?_ ?_
  ·
   exact ⟨0, by rw [askTo_zero]; rfl, by omega, by omega, hs10⟩
  ·
   intro k vs μ w17 hI K16 hN15
   obtain ⟨i, rfl, hia, rfl, hs⟩ := hI
   refine w_seq (fun K19 hK18 => ?_)
   refine w_seq (fun K21 hK20 => ?_)
   refine w_region ?_
   refine w_pure want_none (y_move (v := .int _ _) rfl rfl) rfl ?_
   refine w_pure want_none (y_move (v := .slice _ _ _) rfl rfl) rfl ?_
   refine w_pure want_none (y_lenS Try.underlying30 rfl rfl) rfl ?_
   refine w_pure want_none (y_lss rfl rfl rfl rfl) rfl ?_
   refine w_pure want_none (y_move (v := .bool _) rfl rfl) rfl ?_
   refine w_split (fun h22 => ?_) (fun h22 => ?_)
   ·
    try simp only [Bool.not_eq_true', Bool.not_eq_false', decide_eq_true_eq, decide_eq_false_iff_not, Int.not_lt, Int.not_le] at h22
    refine w_pure (want_yes rfl rfl rfl) (y_move (v := .int _ _) rfl rfl) rfl ?_
    refine w_pure (want_yes rfl rfl rfl) (y_eql rfl rfl rfl rfl) rfl ?_
    refine w_pure want_none (y_pickT (v := .bool _) rfl rfl rfl rfl) rfl ?_
    refine w_nil ?_
    refine q_then (hK20 _ _ ?_)
    refine w_cond rfl rfl (fun h23 => ?_) (fun h23 => ?_)
    ·
     try simp only [Bool.not_eq_true', Bool.not_eq_false', decide_eq_true_eq, decide_eq_false_iff_not, Int.not_lt, Int.not_le] at h23
     refine w_skip ?_
     refine q_then (hK18 _ _ ?_)
     refine w_seq (fun K25 hK24 => ?_)
     refine w_block ?_
     refine w_seq (fun K27 hK26 => ?_)
     have hi2 : i < l.length := by omega
     obtain ⟨bx, ox, hbx, hx⟩ := sl_ints hl hi2
     subst hbx
     refine w_draw [] [(0, 0), (1, 0), (2, 0), (3, 1), (4, 0), (5, 1), (6, 0), (7, 0), (8, 2), (9, 0)] Try_mo (by kernel_rfl) hs (fun w28 hs29 => ?_)
     refine d_any rfl want_none rfl (fun _ => (y_move (v := .slice _ _ _) rfl rfl)) ?_
     refine d_any rfl want_none rfl (fun _ => (y_move (v := .int _ _) rfl rfl)) ?_
     refine d_any rfl want_none rfl (fun _ => (y_indexS Try.underlying30 Try.sizeOf3 rfl rfl rfl rfl (i := _) rfl (by omega))) ?_
     refine d_take rfl want_none rfl hs29 (fun _ hq => (y_load1 Try.isAgg3 hq.tail rfl rfl hx)) ?_
     refine d_any rfl want_none rfl (fun _ => (y_fieldAddr (o := 1) (i := 1) Try.underlying26 rfl Try.sizeOf23 rfl rfl rfl)) ?_
     refine d_take rfl want_none rfl hs29 (fun _ hq => (y_load1 Try.isAgg23 hq rfl rfl (ats_own (i := 0) (vs := [_]) rfl rfl))) ?_
     refine d_any rfl want_none rfl (fun _ => (y_lenS Try.underlying23 rfl rfl)) ?_
     refine d_any rfl want_none rfl (fun _ => (y_sub rfl rfl rfl rfl (by omega) (by omega))) ?_
     refine d_eff rfl ?_
     refine w_call want_none Try.call51 rfl rfl rfl rfl (c51 _ _ _ hs29) ?_
     rintro _ w31 ⟨rfl, hs32⟩
     refine w_nil ?_
     refine qn ⟨hs32, ?_⟩
     refine d_any rfl want_none rfl (fun _ => (y_not rfl rfl)) ?_
     refine d_nil ?_
     refine q_then (hK26 _ _ ?_)
     refine w_cond rfl rfl (fun h33 => ?_) (fun h33 => ?_)
     ·
      try simp only [Bool.not_eq_true', Bool.not_eq_false', decide_eq_true_eq, decide_eq_false_iff_not, Int.not_lt, Int.not_le] at h33
      refine w_region ?_
      refine w_pure want_none (y_assign (v := _) rfl rfl) rfl ?_
      refine w_nil ?_
      refine q_blk_normal ?_
      refine q_then (hK24 _ _ ?_)
      refine w_region ?_
      refine w_pure want_none (y_move (v := .int _ _) rfl rfl) rfl ?_
      refine w_pure want_none (y_add rfl rfl rfl rfl (by omega) (by omega)) rfl ?_
      refine w_pure want_none (y_assign (v := .int _ _) rfl rfl) rfl ?_
      refine w_nil ?_
      refine q_then (hN15 _ _ (Nx.intro (l.length - (i + 1)) (by omega) (by repeat (first | exact agree_mix | refine agree_upd rfl ?_ | refine agree_updL rfl ?_ _ | refine agree_mixin rfl ?_)) ?_))
      first
        | exact ⟨i + 1, by rw [askTo_bad hi2 (by assumption) (by assumption)]; rfl, by omega, rfl, hs32⟩
        | exact ⟨i + 1, by rw [askTo_good hi2 (by assumption) (by assumption)]; rfl, by omega, rfl, hs32⟩
     ·
      try simp only [Bool.not_eq_true', Bool.not_eq_false', decide_eq_true_eq, decide_eq_false_iff_not, Int.not_lt, Int.not_le] at h33
      refine w_skip ?_
      refine q_blk_normal ?_
      refine q_then (hK24 _ _ ?_)
      refine w_region ?_
      refine w_pure want_none (y_move (v := .int _ _) rfl rfl) rfl ?_
      refine w_pure want_none (y_add rfl rfl rfl rfl (by omega) (by omega)) rfl ?_
      refine w_pure want_none (y_assign (v := .int _ _) rfl rfl) rfl ?_
      refine w_nil ?_
      refine q_then (hN15 _ _ (Nx.intro (l.length - (i + 1)) (by omega) (by repeat (first | exact agree_mix | refine agree_upd rfl ?_ | refine agree_updL rfl ?_ _ | refine agree_mixin rfl ?_)) ?_))
      first
        | exact ⟨i + 1, by rw [askTo_bad hi2 (by assumption) (by assumption)]; rfl, by omega, rfl, hs32⟩
        | exact ⟨i + 1, by rw [askTo_good hi2 (by assumption) (by assumption)]; rfl, by omega, rfl, hs32⟩
    ·
     try simp only [Bool.not_eq_true', Bool.not_eq_false', decide_eq_true_eq, decide_eq_false_iff_not, Int.not_lt, Int.not_le] at h23
     refine w_exit ?_
     refine q_then_exit ?_
     refine q_then_exit ?_
     refine q_blk_this ?_
     refine q_then (hK11 _ _ ?_)
     refine w_seq (fun K35 hK34 => ?_)
     refine w_seq (fun K37 hK36 => ?_)
     refine w_region ?_
     refine w_pure want_none (y_move (v := .int _ _) rfl rfl) rfl ?_
     refine w_pure want_none (y_eql rfl rfl rfl rfl) rfl ?_
     refine w_pure want_none (y_move (v := .bool _) rfl rfl) rfl ?_
     refine w_split (fun h38 => ?_) (fun h38 => ?_)
     ·
      try simp only [Bool.not_eq_true', Bool.not_eq_false', decide_eq_true_eq, decide_eq_false_iff_not, Int.not_lt, Int.not_le] at h38
      refine w_pure (want_yes rfl rfl rfl) (y_move (v := .slice _ _ _) rfl rfl) rfl ?_
      refine w_pure (want_yes rfl rfl rfl) (y_fieldAddr (o := 1) (i := 1) Try.underlying26 rfl Try.sizeOf23 rfl rfl rfl) rfl ?_
      refine w_pure (want_yes rfl rfl rfl) (y_load1 Try.isAgg23 hs rfl rfl (ats_own (i := 0) (vs := [_]) rfl rfl)) rfl ?_
      refine w_pure (want_yes rfl rfl rfl) (y_lenS Try.underlying23 rfl rfl) rfl ?_
      refine w_call (want_yes rfl rfl rfl) Try.call38 rfl rfl rfl rfl (c38 _ _ l (by omega) hl.cons _ hs) ?_
      rintro _ w40 ⟨rfl, hs41⟩
      refine w_pure (want_yes rfl rfl rfl) (y_not rfl rfl) rfl ?_
      refine w_pure want_none (y_pickT (v := .bool _) rfl rfl rfl rfl) rfl ?_
      refine w_nil ?_
      refine q_then (hK36 _ _ ?_)
      refine w_cond rfl rfl (fun h42 => ?_) (fun h42 => ?_)
      ·
       try simp only [Bool.not_eq_true', Bool.not_eq_false', decide_eq_true_eq, decide_eq_false_iff_not, Int.not_lt, Int.not_le] at h42
       refine w_region ?_
       refine w_pure want_none (y_assign (v := _) rfl rfl) rfl ?_
       refine w_nil ?_
       refine q_then (hK34 _ _ ?_)
       refine w_seq (fun K44 hK43 => ?_)
       refine w_region ?_
       refine w_pure want_none (y_move (v := .int _ _) rfl rfl) rfl ?_
       refine w_pure want_none (y_assign (v := .int _ _) rfl rfl) rfl ?_
       refine w_nil ?_
       refine q_then (hK43 _ _ ?_)
       refine w_ret ?_
       refine q_ret (l := [.tmp 4]) (vs := [_]) rfl ⟨⟨rfl, show _ = (.int _ _ : Value) from rfl⟩, trivial⟩ ?_
       have hst : askTo m l l.length = askTo m l i := (by by_cases h0 : askTo m l i = 0; (have hil : i = l.length := (by omega); rw [hil]); exact askTo_stop hia h0)
       first
         | exact ⟨congrArg (Value.int .i64) (by unfold askedE; rw [if_pos ⟨by rw [hst]; assumption, by assumption⟩]), hs41.tail⟩
         | exact ⟨congrArg (Value.int .i64) (by unfold askedE; rw [if_neg (fun h => by first | (have h8 := h.1; rw [hst] at h8; contradiction) | (have h9 := h.2; simp_all)), hst]), hs41.tail⟩
      ·
       try simp only [Bool.not_eq_true', Bool.not_eq_false', decide_eq_true_eq, decide_eq_false_iff_not, Int.not_lt, Int.not_le] at h42
       refine w_skip ?_
       refine q_then (hK34 _ _ ?_)
       refine w_seq (fun K46 hK45 => ?_)
       refine w_region ?_
       refine w_pure want_none (y_move (v := .int _ _) rfl rfl) rfl ?_
       refine w_pure want_none (y_assign (v := .int _ _) rfl rfl) rfl ?_
       refine w_nil ?_
       refine q_then (hK45 _ _ ?_)
       refine w_ret ?_
       refine q_ret (l := [.tmp 4]) (vs := [_]) rfl ⟨⟨rfl, show _ = (.int _ _ : Value) from rfl⟩, trivial⟩ ?_
       have hst : askTo m l l.length = askTo m l i := (by by_cases h0 : askTo m l i = 0; (have hil : i = l.length := (by omega); rw [hil]); exact askTo_stop hia h0)
       first
         | exact ⟨congrArg (Value.int .i64) (by unfold askedE; rw [if_pos ⟨by rw [hst]; assumption, by assumption⟩]), hs41.tail⟩
         | exact ⟨congrArg (Value.int .i64) (by unfold askedE; rw [if_neg (fun h => by first | (have h8 := h.1; rw [hst] at h8; contradiction) | (have h9 := h.2; simp_all)), hst]), hs41.tail⟩
     ·
      try simp only [Bool.not_eq_true', Bool.not_eq_false', decide_eq_true_eq, decide_eq_false_iff_not, Int.not_lt, Int.not_le] at h38
      refine w_skipop rfl rfl rfl ?_
      refine w_skipop rfl rfl rfl ?_
      refine w_skipop rfl rfl rfl ?_
      refine w_skipop rfl rfl rfl ?_
      refine w_skipop rfl rfl rfl ?_
      refine w_skipop rfl rfl rfl ?_
      refine w_pure want_none (y_pickF (v := _) rfl rfl rfl rfl) rfl ?_
      refine w_nil ?_
      refine q_then (hK36 _ _ ?_)
      refine w_condF rfl rfl ?_
      refine w_skip ?_
      refine q_then (hK34 _ _ ?_)
      refine w_seq (fun K48 hK47 => ?_)
      refine w_region ?_
      refine w_pure want_none (y_move (v := .int _ _) rfl rfl) rfl ?_
      refine w_pure want_none (y_assign (v := .int _ _) rfl rfl) rfl ?_
      refine w_nil ?_
      refine q_then (hK47 _ _ ?_)
      refine w_ret ?_
      refine q_ret (l := [.tmp 4]) (vs := [_]) rfl ⟨⟨rfl, show _ = (.int _ _ : Value) from rfl⟩, trivial⟩ ?_
      have hst : askTo m l l.length = askTo m l i := (by by_cases h0 : askTo m l i = 0; (have hil : i = l.length := (by omega); rw [hil]); exact askTo_stop hia h0)
      first
        | exact ⟨congrArg (Value.int .i64) (by unfold askedE; rw [if_pos ⟨by rw [hst]; assumption, by assumption⟩]), hs.tail⟩
        | exact ⟨congrArg (Value.int .i64) (by unfold askedE; rw [if_neg (fun h => by first | (have h8 := h.1; rw [hst] at h8; contradiction) | (have h9 := h.2; simp_all)), hst]), hs.tail⟩
   ·
    try simp only [Bool.not_eq_true', Bool.not_eq_false', decide_eq_true_eq, decide_eq_false_iff_not, Int.not_lt, Int.not_le] at h22
    refine w_skipop rfl rfl rfl ?_
    refine w_skipop rfl rfl rfl ?_
    refine w_pure want_none (y_pickF (v := _) rfl rfl rfl rfl) rfl ?_
    refine w_nil ?_
    refine q_then (hK20 _ _ ?_)
    refine w_condF rfl rfl ?_
    refine w_exit ?_
    refine q_then_exit ?_
    refine q_then_exit ?_
    refine q_blk_this ?_
    refine q_then (hK11 _ _ ?_)
    refine w_seq (fun K50 hK49 => ?_)
    refine w_seq (fun K52 hK51 => ?_)
    refine w_region ?_
    refine w_pure want_none (y_move (v := .int _ _) rfl rfl) rfl ?_
    refine w_pure want_none (y_eql rfl rfl rfl rfl) rfl ?_
    refine w_pure want_none (y_move (v := .bool _) rfl rfl) rfl ?_
    refine w_split (fun h53 => ?_) (fun h53 => ?_)
    ·
     try simp only [Bool.not_eq_true', Bool.not_eq_false', decide_eq_true_eq, decide_eq_false_iff_not, Int.not_lt, Int.not_le] at h53
     refine w_pure (want_yes rfl rfl rfl) (y_move (v := .slice _ _ _) rfl rfl) rfl ?_
     refine w_pure (want_yes rfl rfl rfl) (y_fieldAddr (o := 1) (i := 1) Try.underlying26 rfl Try.sizeOf23 rfl rfl rfl) rfl ?_
     refine w_pure (want_yes rfl rfl rfl) (y_load1 Try.isAgg23 hs rfl rfl (ats_own (i := 0) (vs := [_]) rfl rfl)) rfl ?_
     refine w_pure (want_yes rfl rfl rfl) (y_lenS Try.underlying23 rfl rfl) rfl ?_
     refine w_call (want_yes rfl rfl rfl) Try.call38 rfl rfl rfl rfl (c38 _ _ l (by omega) hl.cons _ hs) ?_
     rintro _ w55 ⟨rfl, hs56⟩
     refine w_pure (want_yes rfl rfl rfl) (y_not rfl rfl) rfl ?_
     refine w_pure want_none (y_pickT (v := .bool _) rfl rfl rfl rfl) rfl ?_
     refine w_nil ?_
     refine q_then (hK51 _ _ ?_)
     refine w_cond rfl rfl (fun h57 => ?_) (fun h57 => ?_)
     ·
      try simp only [Bool.not_eq_true', Bool.not_eq_false', decide_eq_true_eq, decide_eq_false_iff_not, Int.not_lt, Int.not_le] at h57
      refine w_region ?_
      refine w_pure want_none (y_assign (v := _) rfl rfl) rfl ?_
      refine w_nil ?_
      refine q_then (hK49 _ _ ?_)
      refine w_seq (fun K59 hK58 => ?_)
      refine w_region ?_
      refine w_pure want_none (y_move (v := .int _ _) rfl rfl) rfl ?_
      refine w_pure want_none (y_assign (v := .int _ _) rfl rfl) rfl ?_
      refine w_nil ?_
      refine q_then (hK58 _ _ ?_)
      refine w_ret ?_
      refine q_ret (l := [.tmp 4]) (vs := [_]) rfl ⟨⟨rfl, show _ = (.int _ _ : Value) from rfl⟩, trivial⟩ ?_
      have hst : askTo m l l.length = askTo m l i := (by by_cases h0 : askTo m l i = 0; (have hil : i = l.length := (by omega); rw [hil]); exact askTo_stop hia h0)
      first
        | exact ⟨congrArg (Value.int .i64) (by unfold askedE; rw [if_pos ⟨by rw [hst]; assumption, by assumption⟩]), hs56.tail⟩
        | exact ⟨congrArg (Value.int .i64) (by unfold askedE; rw [if_neg (fun h => by first | (have h8 := h.1; rw [hst] at h8; contradiction) | (have h9 := h.2; simp_all)), hst]), hs56.tail⟩
     ·
      try simp only [Bool.not_eq_true', Bool.not_eq_false', decide_eq_true_eq, decide_eq_false_iff_not, Int.not_lt, Int.not_le] at h57
      refine w_skip ?_
      refine q_then (hK49 _ _ ?_)
      refine w_seq (fun K61 hK60 => ?_)
      refine w_region ?_
      refine w_pure want_none (y_move (v := .int _ _) rfl rfl) rfl ?_
      refine w_pure want_none (y_assign (v := .int _ _) rfl rfl) rfl ?_
      refine w_nil ?_
      refine q_then (hK60 _ _ ?_)
      refine w_ret ?_
      refine q_ret (l := [.tmp 4]) (vs := [_]) rfl ⟨⟨rfl, show _ = (.int _ _ : Value) from rfl⟩, trivial⟩ ?_
      have hst : askTo m l l.length = askTo m l i := (by by_cases h0 : askTo m l i = 0; (have hil : i = l.length := (by omega); rw [hil]); exact askTo_stop hia h0)
      first
        | exact ⟨congrArg (Value.int .i64) (by unfold askedE; rw [if_pos ⟨by rw [hst]; assumption, by assumption⟩]), hs56.tail⟩
        | exact ⟨congrArg (Value.int .i64) (by unfold askedE; rw [if_neg (fun h => by first | (have h8 := h.1; rw [hst] at h8; contradiction) | (have h9 := h.2; simp_all)), hst]), hs56.tail⟩
    ·
     try simp only [Bool.not_eq_true', Bool.not_eq_false', decide_eq_true_eq, decide_eq_false_iff_not, Int.not_lt, Int.not_le] at h53
     refine w_skipop rfl rfl rfl ?_
     refine w_skipop rfl rfl rfl ?_
     refine w_skipop rfl rfl rfl ?_
     refine w_skipop rfl rfl rfl ?_
     refine w_skipop rfl rfl rfl ?_
     refine w_skipop rfl rfl rfl ?_
     refine w_pure want_none (y_pickF (v := _) rfl rfl rfl rfl) rfl ?_
     refine w_nil ?_
     refine q_then (hK51 _ _ ?_)
     refine w_condF rfl rfl ?_
     refine w_skip ?_
     refine q_then (hK49 _ _ ?_)
     refine w_seq (fun K63 hK62 => ?_)
     refine w_region ?_
     refine w_pure want_none (y_move (v := .int _ _) rfl rfl) rfl ?_
     refine w_pure want_none (y_assign (v := .int _ _) rfl rfl) rfl ?_
     refine w_nil ?_
     refine q_then (hK62 _ _ ?_)
     refine w_ret ?_
     refine q_ret (l := [.tmp 4]) (vs := [_]) rfl ⟨⟨rfl, show _ = (.int _ _ : Value) from rfl⟩, trivial⟩ ?_
     have hst : askTo m l l.length = askTo m l i := (by by_cases h0 : askTo m l i = 0; (have hil : i = l.length := (by omega); rw [hil]); exact askTo_stop hia h0)
     first
       | exact ⟨congrArg (Value.int .i64) (by unfold askedE; rw [if_pos ⟨by rw [hst]; assumption, by assumption⟩]), hs.tail⟩
       | exact ⟨congrArg (Value.int .i64) (by unfold askedE; rw [if_neg (fun h => by first | (have h8 := h.1; rw [hst] at h8; contradiction) | (have h9 := h.2; simp_all)), hst]), hs.tail⟩

theorem c23 {w0 w : World} {F : List (Nat × Obj)} (m : Market) (p : At3) (hm : MIn w0 F m p) (al : Option Addr) (cl : Nat) (l : List Int) (hll : l.length ≤ 9223372036854775807) (hl : Sl w0 F al 1 (l.map fun x => [Value.int .i64 x]))  (hs : St w0 w F) :
  Con Try.prog 23 [.agg (m.cells p).toArray, .slice al l.length cl] w fun v w' => v = .tuple #[.int .i64 (canR m l).1, .int .i64 (canR m l).2] ∧ St w0 w' F := by
  refine con_of_wc (n := 26) Try.func23 rfl rfl (Nat.le_of_ble_eq_true rfl) ?_
  refine w_seq (fun K2 hK1 => ?_)
  refine w_region ?_
  refine w_box (v := .agg #[.slice _ _ _, .slice _ _ _, .slice _ _ _]) (cs := [_, _, _]) want_none rfl rfl rfl hs (fun b3 w4 hs5 => ?_)
  refine w_pure want_none (y_assign (v := _) rfl rfl) rfl ?_
  refine w_pure want_none (y_assign (v := _) rfl rfl) rfl ?_
  refine w_nil ?_
  refine q_then (hK1 _ _ ?_)
  refine w_seq (fun K7 hK6 => ?_)
  have hbx : Ats w0 ((b3, blk 26 (m.cells p)) :: F) b3 0 (m.cells p) := ats_own (i := 0) (vs := m.cells p) rfl rfl
  refine w_region ?_
  refine w_pure want_none (y_loadN (vs := [_, _, _]) Try.isAgg26 Try.sizeOf26 hs5 rfl rfl hbx) rfl ?_
  refine w_pure want_none (y_move (v := .slice _ _ _) rfl rfl) rfl ?_
  refine w_call want_none Try.call69 rfl rfl rfl rfl (c69 m _ hm.cons _ _ l hll hl.cons hs5) ?_
  rintro _ w9 ⟨rfl, hs10⟩
  refine w_pure want_none (y_assign (v := .int _ _) rfl rfl) rfl ?_
  refine w_nil ?_
  refine q_then (hK6 _ _ ?_)
  refine w_seq (fun K12 hK11 => ?_)
  refine w_seq (fun K14 hK13 => ?_)
  refine w_region ?_
  refine w_pure want_none (y_move (v := .int _ _) rfl rfl) rfl ?_
  refine w_pure want_none (y_neq rfl rfl rfl rfl) rfl ?_
  refine w_nil ?_
  refine q_then (hK13 _ _ ?_)
  refine w_cond rfl rfl (fun h15 => ?_) (fun h15 => ?_)
  ·
   try simp only [Bool.not_eq_true', Bool.not_eq_false', decide_eq_true_eq, decide_eq_false_iff_not, Int.not_lt, Int.not_le] at h15
   refine w_seq (fun K17 hK16 => ?_)
   refine w_region ?_
   refine w_pure want_none (y_move (v := .int _ _) rfl rfl) rfl ?_
   refine w_pure want_none (y_assign (v := _) rfl rfl) rfl ?_
   refine w_pure want_none (y_assign (v := .int _ _) rfl rfl) rfl ?_
   refine w_nil ?_
   refine q_then (hK16 _ _ ?_)
   refine w_ret ?_
   refine q_then_ret ?_
   refine q_ret (l := [.tmp 4, .tmp 5]) (vs := [_, _]) rfl ⟨⟨rfl, show _ = (.int _ _ : Value) from rfl⟩, ⟨rfl, show _ = (.int _ _ : Value) from rfl⟩, trivial⟩ ?_
   exact ⟨by simp [canR, retV, h15], hs10.tail⟩
  ·
   try simp only [Bool.not_eq_true', Bool.not_eq_false', decide_eq_true_eq, decide_eq_false_iff_not, Int.not_lt, Int.not_le] at h15
   refine w_skip ?_
   refine q_then (hK11 _ _ ?_)
   refine w_seq (fun K19 hK18 => ?_)
   refine w_block ?_
   refine w_seq (fun K21 hK20 => ?_)
   have hask : askedE m l = 0 := by assumption
   obtain ⟨hck, hlb, hri⟩ := askedE_chk hask
   have hok := check_ok hck
   have hal := asked_len hask
   have hls := hok.ls
   refine w_draw [] [(0, 1), (1, 1), (3, 0), (2, 2), (4, 2), (5, 0)] Try_mo (by kernel_rfl) hs10 (fun w22 hs23 => ?_)
   refine d_take rfl want_none rfl hs23 (fun _ hq => (y_loadN (vs := [_, _, _]) Try.isAgg26 Try.sizeOf26 hq rfl rfl hbx)) ?_
   refine d_take rfl want_none rfl hs23 (fun _ hq => (y_loadN (vs := [_, _, _]) Try.isAgg26 Try.sizeOf26 hq rfl rfl hbx)) ?_
   refine d_any rfl want_none rfl (fun _ => (y_move (v := .slice _ _ _) rfl rfl)) ?_
   refine d_eff rfl ?_
   refine w_call want_none Try.call37 rfl rfl rfl rfl (c37 m _ hm.cons hok  hs23) ?_
   rintro _ w25 ⟨BL, a_BL, c_BL, rfl, hs_BL, hs26⟩
   replace hs26 := (show St _ _ (BL ++ (_ :: F)) from hs26)
   refine w_nil ?_
   refine qn ⟨hs26.drop, ?_⟩
   refine d_eff rfl ?_
   refine w_call want_none Try.call49 rfl rfl rfl rfl (c49 m _ hm.cons.app hok _ _ (leastL m) (List.length_map _) hs_BL.top (leastL_in hok) _ _ l (by omega) hl.cons.app hlb hs26) ?_
   rintro _ w28 ⟨rfl, hs29⟩
   refine w_nil ?_
   refine qn ⟨hs29.drop, ?_⟩
   refine d_any rfl want_none rfl (fun _ => (y_assign (v := .bool _) rfl rfl)) ?_
   refine d_nil ?_
   refine q_then (hK20 _ _ ?_)
   refine w_cond rfl rfl (fun h30 => ?_) (fun h30 => ?_)
   ·
    try simp only [Bool.not_eq_true', Bool.not_eq_false', decide_eq_true_eq, decide_eq_false_iff_not, Int.not_lt, Int.not_le] at h30
    refine w_seq (fun K32 hK31 => ?_)
    refine w_region ?_
    refine w_pure want_none (y_assign (v := _) rfl rfl) rfl ?_
    refine w_pure want_none (y_assign (v := _) rfl rfl) rfl ?_
    refine w_nil ?_
    refine q_then (hK31 _ _ ?_)
    refine w_ret ?_
    refine q_blk_ret ?_
    refine q_then_ret ?_
    refine q_ret (l := [.tmp 4, .tmp 5]) (vs := [_, _]) rfl ⟨⟨rfl, show _ = (.int _ _ : Value) from rfl⟩, ⟨rfl, show _ = (.int _ _ : Value) from rfl⟩, trivial⟩ ?_
    exact ⟨by simp [canR, retV, h15, h30], hs29.drop.tail⟩
   ·
    try simp only [Bool.not_eq_true', Bool.not_eq_false', decide_eq_true_eq, decide_eq_false_iff_not, Int.not_lt, Int.not_le] at h30
    refine w_seq (fun K34 hK33 => ?_)
    refine w_draw [] [(0, 1), (1, 1), (3, 0), (2, 2), (4, 2), (5, 0), (6, 0)] Try_mo (by kernel_rfl) hs29 (fun w35 hs36 => ?_)
    refine d_take rfl want_none rfl hs36 (fun _ hq => (y_loadN (vs := [_, _, _]) Try.isAgg26 Try.sizeOf26 hq.drop rfl rfl hbx)) ?_
    refine d_take rfl want_none rfl hs36 (fun _ hq => (y_loadN (vs := [_, _, _]) Try.isAgg26 Try.sizeOf26 hq.drop rfl rfl hbx)) ?_
    refine d_any rfl want_none rfl (fun _ => (y_move (v := .slice _ _ _) rfl rfl)) ?_
    refine d_eff rfl ?_
    refine w_call want_none Try.call47 rfl rfl rfl rfl (c47 m _ hm.cons.app hok  hs36) ?_
    rintro _ w38 ⟨BM, a_BM, c_BM, rfl, hs_BM, hs39⟩
    replace hs39 := (show St _ _ (BM ++ (BL ++ (_ :: F))) from hs39)
    refine w_nil ?_
    refine qn ⟨hs39.drop, ?_⟩
    refine d_eff rfl ?_
    refine w_call want_none Try.call49 rfl rfl rfl rfl (c49 m _ hm.cons.app.app hok _ _ (mostL m) (List.length_map _) hs_BM.top (mostL_in hok) _ _ l (by omega) hl.cons.app.app hlb hs39) ?_
    rintro _ w41 ⟨rfl, hs42⟩
    refine w_nil ?_
    refine qn ⟨hs42.drop, ?_⟩
    refine d_any rfl want_none rfl (fun _ => (y_not rfl rfl)) ?_
    refine d_any rfl want_none rfl (fun _ => (y_assign (v := .bool _) rfl rfl)) ?_
    refine d_nil ?_
    refine q_then (hK33 _ _ ?_)
    refine w_cond rfl rfl (fun h43 => ?_) (fun h43 => ?_)
    ·
     try simp only [Bool.not_eq_true', Bool.not_eq_false', decide_eq_true_eq, decide_eq_false_iff_not, Int.not_lt, Int.not_le] at h43
     refine w_seq (fun K45 hK44 => ?_)
     refine w_region ?_
     refine w_pure want_none (y_assign (v := _) rfl rfl) rfl ?_
     refine w_pure want_none (y_assign (v := _) rfl rfl) rfl ?_
     refine w_nil ?_
     refine q_then (hK44 _ _ ?_)
     refine w_ret ?_
     refine q_blk_ret ?_
     refine q_then_ret ?_
     refine q_ret (l := [.tmp 4, .tmp 5]) (vs := [_, _]) rfl ⟨⟨rfl, show _ = (.int _ _ : Value) from rfl⟩, ⟨rfl, show _ = (.int _ _ : Value) from rfl⟩, trivial⟩ ?_
     exact ⟨by simp [canR, retV, h15, h30, h43], hs42.drop.drop.tail⟩
    ·
     try simp only [Bool.not_eq_true', Bool.not_eq_false', decide_eq_true_eq, decide_eq_false_iff_not, Int.not_lt, Int.not_le] at h43
     refine w_skip ?_
     refine q_blk_normal ?_
     refine q_then (hK18 _ _ ?_)
     refine w_seq (fun K47 hK46 => ?_)
     refine w_region ?_
     refine w_pure want_none (y_assign (v := _) rfl rfl) rfl ?_
     refine w_pure want_none (y_assign (v := _) rfl rfl) rfl ?_
     refine w_nil ?_
     refine q_then (hK46 _ _ ?_)
     refine w_ret ?_
     refine q_ret (l := [.tmp 4, .tmp 5]) (vs := [_, _]) rfl ⟨⟨rfl, show _ = (.int _ _ : Value) from rfl⟩, ⟨rfl, show _ = (.int _ _ : Value) from rfl⟩, trivial⟩ ?_
     exact ⟨by simp [canR, retV, h15, h30, h43], hs42.drop.drop.tail⟩

theorem c25 {w0 w : World} {F : List (Nat × Obj)} (m : Market) (p : At3) (hm : MIn w0 F m p) (al : Option Addr) (cl : Nat) (l : List Int) (hll : l.length ≤ 9223372036854775807) (hl : Sl w0 F al 1 (l.map fun x => [Value.int .i64 x]))  (hs : St w0 w F) :
  Con Try.prog 25 [.agg (m.cells p).toArray, .slice al l.length cl] w fun v w' => ∃ B a c, v = .tuple #[.slice a (proofR m l).1.length c, .int .i64 (proofR m l).2.1, .int .i64 (proofR m l).2.2] ∧ Sl w0 B a 1 ((proofR m l).1.map fun x => [Value.int .i64 x]) ∧ St w0 w' (B ++ F) := by
  refine con_of_wc (n := 30) Try.func25 rfl rfl (Nat.le_of_ble_eq_true rfl) ?_
  refine w_seq (fun K2 hK1 => ?_)
  refine w_region ?_
  refine w_box (v := .agg #[.slice _ _ _, .slice _ _ _, .slice _ _ _]) (cs := [_, _, _]) want_none rfl rfl rfl hs (fun b3 w4 hs5 => ?_)
  refine w_pure want_none (y_assign (v := _) rfl rfl) rfl ?_
  refine w_pure want_none (y_assign (v := _) rfl rfl) rfl ?_
  refine w_pure want_none (y_assign (v := _) rfl rfl) rfl ?_
  refine w_nil ?_
  refine q_then (hK1 _ _ ?_)
  refine w_seq (fun K7 hK6 => ?_)
  have hbx : Ats w0 ((b3, blk 26 (m.cells p)) :: F) b3 0 (m.cells p) := ats_own (i := 0) (vs := m.cells p) rfl rfl
  refine w_region ?_
  refine w_pure want_none (y_loadN (vs := [_, _, _]) Try.isAgg26 Try.sizeOf26 hs5 rfl rfl hbx) rfl ?_
  refine w_pure want_none (y_move (v := .slice _ _ _) rfl rfl) rfl ?_
  refine w_call want_none Try.call69 rfl rfl rfl rfl (c69 m _ hm.cons _ _ l hll hl.cons hs5) ?_
  rintro _ w9 ⟨rfl, hs10⟩
  refine w_pure want_none (y_assign (v := .int _ _) rfl rfl) rfl ?_
  refine w_nil ?_
  refine q_then (hK6 _ _ ?_)
  refine w_seq (fun K12 hK11 => ?_)
  refine w_seq (fun K14 hK13 => ?_)
  refine w_region ?_
  refine w_pure want_none (y_move (v := .int _ _) rfl rfl) rfl ?_
  refine w_pure want_none (y_neq rfl rfl rfl rfl) rfl ?_
  refine w_nil ?_
  refine q_then (hK13 _ _ ?_)
  refine w_cond rfl rfl (fun h15 => ?_) (fun h15 => ?_)
  ·
   try simp only [Bool.not_eq_true', Bool.not_eq_false', decide_eq_true_eq, decide_eq_false_iff_not, Int.not_lt, Int.not_le] at h15
   refine w_seq (fun K17 hK16 => ?_)
   refine w_region ?_
   refine w_pure want_none (y_move (v := .int _ _) rfl rfl) rfl ?_
   refine w_pure want_none (y_assign (v := _) rfl rfl) rfl ?_
   refine w_pure want_none (y_assign (v := _) rfl rfl) rfl ?_
   refine w_pure want_none (y_assign (v := .int _ _) rfl rfl) rfl ?_
   refine w_nil ?_
   refine q_then (hK16 _ _ ?_)
   refine w_ret ?_
   refine q_then_ret ?_
   refine q_ret (l := [.tmp 4, .tmp 5, .tmp 6]) (vs := [_, _, _]) rfl ⟨⟨rfl, show _ = (.slice _ _ _ : Value) from rfl⟩, ⟨rfl, show _ = (.int _ _ : Value) from rfl⟩, ⟨rfl, show _ = (.int _ _ : Value) from rfl⟩, trivial⟩ ?_
   first
     | (have hq : proofR m l = ([], 0, askedE m l) := by unfold proofR; rw [if_pos (by assumption)]
        exact ⟨[], none, 0, by rw [hq]; rfl, by rw [hq]; exact Sl.nil _ _, hs10.tail⟩)
     | (have hq : proofR m l = ([], 0, 9) := by unfold proofR; rw [if_neg (by simp [hask]), if_pos (by assumption)]
        exact ⟨[], none, 0, by rw [hq]; rfl, by rw [hq]; exact Sl.nil _ _, hs10.tail⟩)
     | (have hq : proofR m l = ((worstR m (leastL m) (wantsL m) l 0).1, (worstR m (leastL m) (wantsL m) l 0).2, 0) := by unfold proofR; rw [if_neg (by simp [hask]), if_neg (by assumption)]
        exact ⟨BX ++ (BW ++ (BL ++ [_])), aX, cX, by rw [hq]; rfl, by rw [hq]; exact hsX.top, by simp only [List.append_assoc]; exact hs10⟩)
  ·
   try simp only [Bool.not_eq_true', Bool.not_eq_false', decide_eq_true_eq, decide_eq_false_iff_not, Int.not_lt, Int.not_le] at h15
   refine w_skip ?_
   refine q_then (hK11 _ _ ?_)
   refine w_seq (fun K19 hK18 => ?_)
   have hask : askedE m l = 0 := by assumption
   obtain ⟨hck, hlb, hri⟩ := askedE_chk hask
   have hok := check_ok hck
   have hal := asked_len hask
   have hls := hok.ls
   refine w_draw [] [(0, 1), (1, 1), (3, 1), (5, 0), (2, 2), (4, 2), (6, 2), (7, 0), (8, 0), (9, 0), (10, 0), (11, 0)] Try_mo (by kernel_rfl) hs10 (fun w20 hs21 => ?_)
   refine d_take rfl want_none rfl hs21 (fun _ hq => (y_loadN (vs := [_, _, _]) Try.isAgg26 Try.sizeOf26 hq rfl rfl hbx)) ?_
   refine d_take rfl want_none rfl hs21 (fun _ hq => (y_loadN (vs := [_, _, _]) Try.isAgg26 Try.sizeOf26 hq rfl rfl hbx)) ?_
   refine d_take rfl want_none rfl hs21 (fun _ hq => (y_loadN (vs := [_, _, _]) Try.isAgg26 Try.sizeOf26 hq rfl rfl hbx)) ?_
   refine d_any rfl want_none rfl (fun _ => (y_move (v := .slice _ _ _) rfl rfl)) ?_
   refine d_eff rfl ?_
   refine w_call want_none Try.call37 rfl rfl rfl rfl (c37 m _ hm.cons hok  hs21) ?_
   rintro _ w23 ⟨BL, a_BL, c_BL, rfl, hs_BL, hs24⟩
   replace hs24 := (show St _ _ (BL ++ (_ :: F)) from hs24)
   refine w_nil ?_
   refine qn ⟨hs24.drop, ?_⟩
   refine d_eff rfl ?_
   refine w_call want_none Try.call72 rfl rfl rfl rfl (c72 m _ hm.cons.app hok  hs24) ?_
   rintro _ w26 ⟨BW, a_BW, c_BW, rfl, hs_BW, hs27⟩
   replace hs27 := (show St _ _ (BW ++ (BL ++ (_ :: F))) from hs27)
   refine w_nil ?_
   refine qn ⟨hs27.drop.drop, ?_⟩
   refine d_eff rfl ?_
   refine w_call want_none Try.call71 rfl rfl rfl rfl (c71 m _ hm.cons.app.app hok _ _ (leastL m) (List.length_map _) hs_BL.top.app (leastL_in hok) _ _ (wantsL m) (List.length_map _) hs_BW.top (wantsL_in hok) _ _ l (by omega) hl.cons.app.app hlb 0 (Nat.zero_le _) hs27) ?_
   rintro _ w29 ⟨BX, aX, cX, rfl, hsX, hs30⟩
   replace hs30 := (show St _ _ (BX ++ (BW ++ (BL ++ (_ :: F)))) from hs30)
   refine w_nil ?_
   refine qn ⟨hs30.drop.drop.drop, ?_⟩
   refine d_any rfl want_none rfl (fun _ => (y_move (v := .tuple _) rfl rfl)) ?_
   refine d_any rfl want_none rfl (fun _ => (y_extract (v := .slice _ _ _) rfl rfl rfl)) ?_
   refine d_any rfl want_none rfl (fun _ => (y_extract (v := .int _ _) rfl rfl rfl)) ?_
   refine d_any rfl want_none rfl (fun _ => (y_assign (v := .slice _ _ _) rfl rfl)) ?_
   refine d_any rfl want_none rfl (fun _ => (y_assign (v := .int _ _) rfl rfl)) ?_
   refine d_nil ?_
   refine q_then (hK18 _ _ ?_)
   refine w_seq (fun K32 hK31 => ?_)
   refine w_seq (fun K34 hK33 => ?_)
   refine w_region ?_
   refine w_pure want_none (y_move (v := .int _ _) rfl rfl) rfl ?_
   refine w_pure want_none (y_eql rfl rfl rfl rfl) rfl ?_
   refine w_nil ?_
   refine q_then (hK33 _ _ ?_)
   refine w_cond rfl rfl (fun h35 => ?_) (fun h35 => ?_)
   ·
    try simp only [Bool.not_eq_true', Bool.not_eq_false', decide_eq_true_eq, decide_eq_false_iff_not, Int.not_lt, Int.not_le] at h35
    refine w_seq (fun K37 hK36 => ?_)
    refine w_region ?_
    refine w_pure want_none (y_assign (v := _) rfl rfl) rfl ?_
    refine w_pure want_none (y_assign (v := _) rfl rfl) rfl ?_
    refine w_pure want_none (y_assign (v := _) rfl rfl) rfl ?_
    refine w_nil ?_
    refine q_then (hK36 _ _ ?_)
    refine w_ret ?_
    refine q_then_ret ?_
    refine q_ret (l := [.tmp 4, .tmp 5, .tmp 6]) (vs := [_, _, _]) rfl ⟨⟨rfl, show _ = (.slice _ _ _ : Value) from rfl⟩, ⟨rfl, show _ = (.int _ _ : Value) from rfl⟩, ⟨rfl, show _ = (.int _ _ : Value) from rfl⟩, trivial⟩ ?_
    first
      | (have hq : proofR m l = ([], 0, askedE m l) := by unfold proofR; rw [if_pos (by assumption)]
         exact ⟨[], none, 0, by rw [hq]; rfl, by rw [hq]; exact Sl.nil _ _, hs30.drop.drop.drop.tail⟩)
      | (have hq : proofR m l = ([], 0, 9) := by unfold proofR; rw [if_neg (by simp [hask]), if_pos (by assumption)]
         exact ⟨[], none, 0, by rw [hq]; rfl, by rw [hq]; exact Sl.nil _ _, hs30.drop.drop.drop.tail⟩)
      | (have hq : proofR m l = ((worstR m (leastL m) (wantsL m) l 0).1, (worstR m (leastL m) (wantsL m) l 0).2, 0) := by unfold proofR; rw [if_neg (by simp [hask]), if_neg (by assumption)]
         exact ⟨BX ++ (BW ++ (BL ++ [_])), aX, cX, by rw [hq]; rfl, by rw [hq]; exact hsX.top, by simp only [List.append_assoc]; exact hs30⟩)
   ·
    try simp only [Bool.not_eq_true', Bool.not_eq_false', decide_eq_true_eq, decide_eq_false_iff_not, Int.not_lt, Int.not_le] at h35
    refine w_skip ?_
    refine q_then (hK31 _ _ ?_)
    refine w_seq (fun K39 hK38 => ?_)
    refine w_region ?_
    refine w_pure want_none (y_move (v := .slice _ _ _) rfl rfl) rfl ?_
    refine w_pure want_none (y_move (v := .int _ _) rfl rfl) rfl ?_
    refine w_pure want_none (y_assign (v := .slice _ _ _) rfl rfl) rfl ?_
    refine w_pure want_none (y_assign (v := .int _ _) rfl rfl) rfl ?_
    refine w_pure want_none (y_assign (v := _) rfl rfl) rfl ?_
    refine w_nil ?_
    refine q_then (hK38 _ _ ?_)
    refine w_ret ?_
    refine q_ret (l := [.tmp 4, .tmp 5, .tmp 6]) (vs := [_, _, _]) rfl ⟨⟨rfl, show _ = (.slice _ _ _ : Value) from rfl⟩, ⟨rfl, show _ = (.int _ _ : Value) from rfl⟩, ⟨rfl, show _ = (.int _ _ : Value) from rfl⟩, trivial⟩ ?_
    first
      | (have hq : proofR m l = ([], 0, askedE m l) := by unfold proofR; rw [if_pos (by assumption)]
         exact ⟨[], none, 0, by rw [hq]; rfl, by rw [hq]; exact Sl.nil _ _, hs30.drop.drop.drop.tail⟩)
      | (have hq : proofR m l = ([], 0, 9) := by unfold proofR; rw [if_neg (by simp [hask]), if_pos (by assumption)]
         exact ⟨[], none, 0, by rw [hq]; rfl, by rw [hq]; exact Sl.nil _ _, hs30.drop.drop.drop.tail⟩)
      | (have hq : proofR m l = ((worstR m (leastL m) (wantsL m) l 0).1, (worstR m (leastL m) (wantsL m) l 0).2, 0) := by unfold proofR; rw [if_neg (by simp [hask]), if_neg (by assumption)]
         exact ⟨BX ++ (BW ++ (BL ++ [_])), aX, cX, by rw [hq]; rfl, by rw [hq]; exact hsX.top, by simp only [List.append_assoc]; exact hs30⟩)

end Go.Proofs
/- Walks of this seat, printed by gen.py over the engine: what each function returns, in whatever world. No conditions but those of each contract. -/
set_option linter.unusedVariables false
set_option linter.unusedSimpArgs false
set_option maxRecDepth 20000
namespace Go.Proofs
open Go.Rt Go.Rt.Sh
attribute [local irreducible] WL WC Con Yd At Ats Sl Agree DW
theorem Try_Y_fb5  (w : World) : (Instr.buildSlice 22 0 [].toArray).run Try.prog w = .ok (.slice (some ⟨w.heap.size, 0, none⟩) 0 0) (w.alloc (Go.Rt.blk 69 [])) := by kernel_rfl
theorem Try_info69 : Try.prog.info? 69 = some Try.t69 := by kernel_rfl
theorem Try_Y_fb7 (x0 : Int) (x1 : Int) (w : World) : (Instr.build 67 [(0, .int .i64 x0), (1, .int .i64 x1)].toArray).run Try.prog w = .ok (.agg #[.int .i64 x0, .int .i64 x1]) w := by kernel_rfl
theorem Try_Y_fb8  (w : World) : (Instr.buildSlice 24 0 [].toArray).run Try.prog w = .ok (.slice (some ⟨w.heap.size, 0, none⟩) 0 0) (w.alloc (Go.Rt.blk 63 [])) := by kernel_rfl
theorem c27 {w0 w : World} {F : List (Nat × Obj)} (m : Market) (p : At3) (hm : MIn w0 F m p)  (hs : St w0 w F) :
  Con Try.prog 27 [.agg (m.cells p).toArray] w fun v w' => ∃ B a c, v = .tuple #[.slice a (withoutR m).1.length c, .int .i64 (withoutR m).2] ∧ Sl w0 B a 1 ((withoutR m).1.map fun x => [Value.int .i64 x]) ∧ St w0 w' (B ++ F) := by
  refine con_of_wc (n := 41) Try.func27 rfl rfl (Nat.le_of_ble_eq_true rfl) ?_
  refine w_seq (fun K2 hK1 => ?_)
  refine w_region ?_
  refine w_box (v := .agg #[.slice _ _ _, .slice _ _ _, .slice _ _ _]) (cs := [_, _, _]) want_none rfl rfl rfl hs (fun b3 w4 hs5 => ?_)
  refine w_pure want_none (y_assign (v := _) rfl rfl) rfl ?_
  refine w_pure want_none (y_assign (v := _) rfl rfl) rfl ?_
  refine w_nil ?_
  refine q_then (hK1 _ _ ?_)
  refine w_seq (fun K7 hK6 => ?_)
  have hbx : Ats w0 ((b3, blk 26 (m.cells p)) :: F) b3 0 (m.cells p) := ats_own (i := 0) (vs := m.cells p) rfl rfl
  refine w_region ?_
  refine w_pure want_none (y_loadN (vs := [_, _, _]) Try.isAgg26 Try.sizeOf26 hs5 rfl rfl hbx) rfl ?_
  refine w_call want_none Try.call17 rfl rfl rfl rfl (c17 m _ hm.cons hs5) ?_
  rintro _ w9 ⟨rfl, hs10⟩
  refine w_pure want_none (y_move (v := .tuple _) rfl rfl) rfl ?_
  refine w_pure want_none (y_extract (v := .int _ _) rfl rfl rfl) rfl ?_
  refine w_pure want_none (y_extract (v := .int _ _) rfl rfl rfl) rfl ?_
  refine w_pure want_none (y_extract (v := .int _ _) rfl rfl rfl) rfl ?_
  refine w_pure want_none (y_assign (v := .int _ _) rfl rfl) rfl ?_
  refine w_pure want_none (y_assign (v := .int _ _) rfl rfl) rfl ?_
  refine w_pure want_none (y_assign (v := .int _ _) rfl rfl) rfl ?_
  refine w_nil ?_
  refine q_then (hK6 _ _ ?_)
  refine w_seq (fun K12 hK11 => ?_)
  refine w_seq (fun K14 hK13 => ?_)
  refine w_region ?_
  refine w_pure want_none (y_move (v := .int _ _) rfl rfl) rfl ?_
  refine w_pure want_none (y_neq rfl rfl rfl rfl) rfl ?_
  refine w_nil ?_
  refine q_then (hK13 _ _ ?_)
  refine w_cond rfl rfl (fun h15 => ?_) (fun h15 => ?_)
  ·
   try simp only [Bool.not_eq_true', Bool.not_eq_false', decide_eq_true_eq, decide_eq_false_iff_not, Int.not_lt, Int.not_le] at h15
   refine w_seq (fun K17 hK16 => ?_)
   refine w_region ?_
   refine w_pure want_none (y_move (v := .int _ _) rfl rfl) rfl ?_
   refine w_pure want_none (y_assign (v := _) rfl rfl) rfl ?_
   refine w_pure want_none (y_assign (v := .int _ _) rfl rfl) rfl ?_
   refine w_nil ?_
   refine q_then (hK16 _ _ ?_)
   refine w_ret ?_
   refine q_then_ret ?_
   refine q_ret (l := [.tmp 2, .tmp 3]) (vs := [_, _]) rfl ⟨⟨rfl, show _ = (.slice _ _ _ : Value) from rfl⟩, ⟨rfl, show _ = (.int _ _ : Value) from rfl⟩, trivial⟩ ?_
   first
     | (have hq : withoutR m = ([], (check m).2.2) := by unfold withoutR; rw [if_pos (by assumption)]
        exact ⟨[], none, 0, by rw [hq]; rfl, by rw [hq]; exact Sl.nil _ _, hs10.tail⟩)
     | (have hq : withoutR m = ((setsL (othersTo [] m.shops.length))[i]'hi2, 0) := by unfold withoutR; rw [if_neg (by simp [hck]), hfw, firstW_here hi2 (by assumption)]
        exact ⟨BO ++ (BL ++ (SB ++ (AB ++ [_]))), b2, c2, by rw [hq]; rfl, by rw [hq]; exact hsx1.top.app.app, by simp only [List.append_assoc]; exact hs10⟩)
     | (have hq : withoutR m = ([], 0) := by unfold withoutR; rw [if_neg (by simp [hck]), hfw, firstW_end (by omega)]
        exact ⟨[], none, 0, by rw [hq]; rfl, by rw [hq]; exact Sl.nil _ _, hs10.tail⟩)
  ·
   try simp only [Bool.not_eq_true', Bool.not_eq_false', decide_eq_true_eq, decide_eq_false_iff_not, Int.not_lt, Int.not_le] at h15
   refine w_skip ?_
   refine q_then (hK11 _ _ ?_)
   refine w_seq (fun K19 hK18 => ?_)
   have hck : (check m).2.2 = 0 := by assumption
   have hok := check_ok hck
   have hls := hok.ls
   have hot := othersTo_len [] m.shops.length
   have hoi := othersTo_in [] m.shops.length
   have hsm := setsL_max (shops := othersTo [] m.shops.length) (by omega)
   refine w_region ?_
   refine w_pure want_none (y_loadN (vs := [_, _, _]) Try.isAgg26 Try.sizeOf26 hs10 rfl rfl hbx) rfl ?_
   refine w_call want_none Try.call48 rfl rfl rfl rfl (c48 m _ hm.cons hok  hs10) ?_
   rintro _ w21 ⟨AB, a_AB, c_AB, rfl, hs_AB, hs22⟩
   replace hs22 := (show St _ _ (AB ++ (_ :: F)) from hs22)
   refine w_call want_none Try.call74 rfl rfl rfl rfl (c74 _ _ (othersTo [] m.shops.length) (by omega) hs_AB.top hs22) ?_
   rintro _ w24 ⟨SB, vs, as2, cs2, rfl, hslS, helS, hs25⟩
   replace hs25 := (show St _ _ (SB ++ (AB ++ (_ :: F))) from hs25)
   refine w_pure want_none (y_assign (v := .slice _ _ _) rfl rfl) rfl ?_
   refine w_nil ?_
   refine q_then (hK18 _ _ ?_)
   refine w_seq (fun K27 hK26 => ?_)
   refine w_seq (fun K29 hK28 => ?_)
   refine w_region ?_
   refine w_pure want_none (y_assign (v := _) rfl rfl) rfl ?_
   refine w_nil ?_
   refine q_then (hK28 _ _ ?_)
   refine w_block ?_
   refine w_loop [2, 3, 8, 21, 22, 23, 24, 25, 26, 27, 28, 29, 30, 31, 32, 33, 34, 35, 36, 37, 38, 39, 40] [8] (fun kk vs0 w => ∃ i : Nat, vs0 = [.int .i64 i] ∧ i ≤ (setsL (othersTo [] m.shops.length)).length ∧ kk = (setsL (othersTo [] m.shops.length)).length - i ∧ firstW m (setsL (othersTo [] m.shops.length)) = firstW m ((setsL (othersTo [] m.shops.length)).drop i) ∧ St w0 w (SB ++ (AB ++ ((b3, blk 26 (m.cells p)) :: F)))) ((setsL (othersTo [] m.shops.length)).length) ?_ ?_
   ·
    exact ⟨0, rfl, by omega, by omega, rfl, hs25⟩
   ·
    intro k vs μ w32 hI K31 hN30
    obtain ⟨i, rfl, hia, rfl, hfw, hs⟩ := hI
    refine w_seq (fun K34 hK33 => ?_)
    refine w_seq (fun K36 hK35 => ?_)
    refine w_region ?_
    refine w_pure want_none (y_move (v := .int _ _) rfl rfl) rfl ?_
    refine w_pure want_none (y_move (v := .slice _ _ _) rfl rfl) rfl ?_
    refine w_pure want_none (y_lenS Try.underlying100 rfl rfl) rfl ?_
    refine w_pure want_none (y_lss rfl rfl rfl rfl) rfl ?_
    refine w_nil ?_
    refine q_then (hK35 _ _ ?_)
    refine w_cond rfl rfl (fun h37 => ?_) (fun h37 => ?_)
    ·
     try simp only [Bool.not_eq_true', Bool.not_eq_false', decide_eq_true_eq, decide_eq_false_iff_not, Int.not_lt, Int.not_le] at h37
     refine w_skip ?_
     refine q_then (hK33 _ _ ?_)
     refine w_seq (fun K39 hK38 => ?_)
     refine w_block ?_
     refine w_seq (fun K41 hK40 => ?_)
     have hi2 : i < (setsL (othersTo [] m.shops.length)).length := by omega
     obtain ⟨bx, ox, b2, c2, hac, hx, hsx1, hnx⟩ := el_at hslS helS hi2
     subst hac
     have hx0 := hx.top (F := AB ++ ((b3, blk 26 (m.cells p)) :: F))
     have hsx0 := hsx1.top (F := AB ++ ((b3, blk 26 (m.cells p)) :: F))
     have hsi := setsL_in (List.getElem_mem hi2)
     have hoi2 := othersTo_in ((setsL (othersTo [] m.shops.length))[i]'hi2) m.shops.length
     have hol2 := othersTo_len ((setsL (othersTo [] m.shops.length))[i]'hi2) m.shops.length
     refine w_draw [] [(0, 1), (1, 1), (3, 1), (4, 0), (5, 0), (6, 0), (7, 1), (2, 2), (8, 2), (9, 2)] Try_mo (by kernel_rfl) hs (fun w42 hs43 => ?_)
     refine d_take rfl want_none rfl hs43 (fun _ hq => (y_loadN (vs := [_, _, _]) Try.isAgg26 Try.sizeOf26 hq.drop.drop rfl rfl hbx)) ?_
     refine d_take rfl want_none rfl hs43 (fun _ hq => (y_loadN (vs := [_, _, _]) Try.isAgg26 Try.sizeOf26 hq.drop.drop rfl rfl hbx)) ?_
     refine d_take rfl want_none rfl hs43 (fun _ hq => (y_loadN (vs := [_, _, _]) Try.isAgg26 Try.sizeOf26 hq.drop.drop rfl rfl hbx)) ?_
     refine d_any rfl want_none rfl (fun _ => (y_move (v := .slice _ _ _) rfl rfl)) ?_
     refine d_any rfl want_none rfl (fun _ => (y_move (v := .int _ _) rfl rfl)) ?_
     refine d_any rfl want_none rfl (fun _ => (y_indexS Try.underlying100 Try.sizeOf30 rfl rfl rfl rfl (i := _) rfl (by omega))) ?_
     refine d_take rfl want_none rfl hs43 (fun _ hq => (y_load1 Try.isAgg30 hq rfl rfl hx0)) ?_
     refine d_eff rfl ?_
     refine w_call want_none Try.call37 rfl rfl rfl rfl (c37 m _ hm.cons.app.app hok  hs43) ?_
     rintro _ w45 ⟨BL, a_BL, c_BL, rfl, hs_BL, hs46⟩
     replace hs46 := (show St _ _ (BL ++ (SB ++ (AB ++ (_ :: F)))) from hs46)
     refine w_nil ?_
     refine qn ⟨hs46.drop, ?_⟩
     refine d_eff rfl ?_
     refine w_call want_none Try.call44 rfl rfl rfl rfl (c44 m _ hm.cons.app.app.app hok _ _ ((setsL (othersTo [] m.shops.length))[i]'hi2) (by omega) hsx0.app hs46) ?_
     rintro _ w48 ⟨BO, a_BO, c_BO, rfl, hs_BO, hs49⟩
     replace hs49 := (show St _ _ (BO ++ (BL ++ (SB ++ (AB ++ (_ :: F))))) from hs49)
     refine w_nil ?_
     refine qn ⟨hs49.drop.drop, ?_⟩
     refine d_eff rfl ?_
     refine w_call want_none Try.call49 rfl rfl rfl rfl (c49 m _ hm.cons.app.app.app.app hok _ _ (leastL m) (List.length_map _) hs_BL.top.app (leastL_in hok) _ _ (othersTo ((setsL (othersTo [] m.shops.length))[i]'hi2) m.shops.length) (by omega) hs_BO.top (fun z hz => by have := hoi2 z hz; omega) hs49) ?_
     rintro _ w51 ⟨rfl, hs52⟩
     refine w_nil ?_
     refine qn ⟨hs52.drop.drop, ?_⟩
     refine d_nil ?_
     refine q_then (hK40 _ _ ?_)
     refine w_cond rfl rfl (fun h53 => ?_) (fun h53 => ?_)
     ·
      try simp only [Bool.not_eq_true', Bool.not_eq_false', decide_eq_true_eq, decide_eq_false_iff_not, Int.not_lt, Int.not_le] at h53
      refine w_seq (fun K55 hK54 => ?_)
      refine w_region ?_
      refine w_pure want_none (y_move (v := .slice _ _ _) rfl rfl) rfl ?_
      refine w_pure want_none (y_move (v := .int _ _) rfl rfl) rfl ?_
      refine w_pure want_none (y_indexS Try.underlying100 Try.sizeOf30 rfl rfl rfl rfl (i := _) rfl (by omega)) rfl ?_
      refine w_pure want_none (y_load1 Try.isAgg30 hs52.drop.drop rfl rfl hx0) rfl ?_
      refine w_pure want_none (y_assign (v := .slice _ _ _) rfl rfl) rfl ?_
      refine w_pure want_none (y_assign (v := _) rfl rfl) rfl ?_
      refine w_nil ?_
      refine q_then (hK54 _ _ ?_)
      refine w_ret ?_
      refine q_blk_ret ?_
      refine q_then_ret ?_
      refine q_then_ret ?_
      refine q_blk_ret ?_
      refine q_then_ret ?_
      refine q_ret (l := [.tmp 2, .tmp 3]) (vs := [_, _]) rfl ⟨⟨rfl, show _ = (.slice _ _ _ : Value) from rfl⟩, ⟨rfl, show _ = (.int _ _ : Value) from rfl⟩, trivial⟩ ?_
      first
        | (have hq : withoutR m = ([], (check m).2.2) := by unfold withoutR; rw [if_pos (by assumption)]
           exact ⟨[], none, 0, by rw [hq]; rfl, by rw [hq]; exact Sl.nil _ _, hs52.drop.drop.drop.drop.tail⟩)
        | (have hq : withoutR m = ((setsL (othersTo [] m.shops.length))[i]'hi2, 0) := by unfold withoutR; rw [if_neg (by simp [hck]), hfw, firstW_here hi2 (by assumption)]
           exact ⟨BO ++ (BL ++ (SB ++ (AB ++ [_]))), b2, c2, by rw [hq]; rfl, by rw [hq]; exact hsx1.top.app.app, by simp only [List.append_assoc]; exact hs52⟩)
        | (have hq : withoutR m = ([], 0) := by unfold withoutR; rw [if_neg (by simp [hck]), hfw, firstW_end (by omega)]
           exact ⟨[], none, 0, by rw [hq]; rfl, by rw [hq]; exact Sl.nil _ _, hs52.drop.drop.drop.drop.tail⟩)
     ·
      try simp only [Bool.not_eq_true', Bool.not_eq_false', decide_eq_true_eq, decide_eq_false_iff_not, Int.not_lt, Int.not_le] at h53
      refine w_skip ?_
      refine q_blk_normal ?_
      refine q_then (hK38 _ _ ?_)
      refine w_region ?_
      refine w_pure want_none (y_move (v := .int _ _) rfl rfl) rfl ?_
      refine w_pure want_none (y_add rfl rfl rfl rfl (by omega) (by omega)) rfl ?_
      refine w_pure want_none (y_assign (v := .int _ _) rfl rfl) rfl ?_
      refine w_nil ?_
      refine q_then (hN30 _ _ (Nx.intro ((setsL (othersTo [] m.shops.length)).length - (i + 1)) (by omega) (by repeat (first | exact agree_mix | refine agree_upd rfl ?_ | refine agree_updL rfl ?_ _ | refine agree_mixin rfl ?_)) ?_))
      exact ⟨i + 1, rfl, by omega, rfl, hfw.trans (firstW_on hi2 (by assumption)), hs52.drop.drop⟩
    ·
     try simp only [Bool.not_eq_true', Bool.not_eq_false', decide_eq_true_eq, decide_eq_false_iff_not, Int.not_lt, Int.not_le] at h37
     refine w_exit ?_
     refine q_then_exit ?_
     refine q_then_exit ?_
     refine q_blk_this ?_
     refine q_then (hK26 _ _ ?_)
     refine w_seq (fun K57 hK56 => ?_)
     refine w_region ?_
     refine w_pure want_none (y_assign (v := _) rfl rfl) rfl ?_
     refine w_pure want_none (y_assign (v := _) rfl rfl) rfl ?_
     refine w_nil ?_
     refine q_then (hK56 _ _ ?_)
     refine w_ret ?_
     refine q_ret (l := [.tmp 2, .tmp 3]) (vs := [_, _]) rfl ⟨⟨rfl, show _ = (.slice _ _ _ : Value) from rfl⟩, ⟨rfl, show _ = (.int _ _ : Value) from rfl⟩, trivial⟩ ?_
     first
       | (have hq : withoutR m = ([], (check m).2.2) := by unfold withoutR; rw [if_pos (by assumption)]
          exact ⟨[], none, 0, by rw [hq]; rfl, by rw [hq]; exact Sl.nil _ _, hs.drop.drop.tail⟩)
       | (have hq : withoutR m = ((setsL (othersTo [] m.shops.length))[i]'hi2, 0) := by unfold withoutR; rw [if_neg (by simp [hck]), hfw, firstW_here hi2 (by assumption)]
          exact ⟨BO ++ (BL ++ (SB ++ (AB ++ [_]))), b2, c2, by rw [hq]; rfl, by rw [hq]; exact hsx1.top.app.app, by simp only [List.append_assoc]; exact hs⟩)
       | (have hq : withoutR m = ([], 0) := by unfold withoutR; rw [if_neg (by simp [hck]), hfw, firstW_end (by omega)]
          exact ⟨[], none, 0, by rw [hq]; rfl, by rw [hq]; exact Sl.nil _ _, hs.drop.drop.tail⟩)

theorem keep_1st {w0 w : World} {F : List (Nat × Obj)} {a b c : Nat × Obj} (h : St w0 w (a :: b :: c :: F)) : St w0 w (a :: F) := (h.perm (perm_mid [a] [b, c] F)).drop
theorem rrows_one (l : List Room) : ∀ row ∈ rrows l, ∀ u ∈ row, u.oneCell' = true := by
  intro row hr u hu
  obtain ⟨f, _, rfl⟩ := List.mem_map.1 hr
  simp only [Room.cells, List.mem_cons, List.not_mem_nil, or_false] at hu
  rcases hu with rfl | rfl | rfl | rfl | rfl <;> rfl
theorem sl_own_rrows {w0 : World} {L : List (Nat × Obj)} {i b n : Nat} {t : TypeId} {cs : List Value} {l : List Room} (hi : L[i]? = some (b, blk t cs)) (hn : l.length = n) (h : cs.take (n * 5) = (rrows l).flatten) : Sl w0 L (some ⟨b, 0, none⟩) 5 (rrows l) :=
  sl_own hi (by intro row hr; obtain ⟨f, _, rfl⟩ := List.mem_map.1 hr; rfl) (by simpa [rrows, hn] using h)
theorem sl_some {w0 : World} {L : List (Nat × Obj)} {a : Option Addr} {sz c : Nat} {rows : List (List Value)} (h : Sl w0 L a sz rows) (hn : 0 < rows.length) : a = none → c = 0 := by
  intro e; obtain ⟨b, o, h1, _⟩ := h.addr hn; rw [e] at h1; cases h1
theorem c50 {w0 w : World} {F : List (Nat × Obj)} (m : Market) (p : At3) (hm : MIn w0 F m p) (r : Nat) (hr2 : r < m.rooms.length) (x : Int) (hx : 0 ≤ x ∧ x ≤ 60) (hxb : ∀ y ∈ m.rooms, 0 ≤ y.lo ∧ y.lo ≤ 200 ∧ 0 ≤ y.hi ∧ y.hi ≤ 200) (hl3 : m.rooms.length ≤ 3) (hs : St w0 w F) :
  Con Try.prog 50 [.agg (m.cells p).toArray, .int .i64 (r : Int), .int .i64 x] w fun v w' => ∃ B p', v = .agg ((withM m r x).cells p').toArray ∧ MIn w0 (B ++ F) (withM m r x) p' ∧ St w0 w' (B ++ F) := by
  refine con_of_wc (n := 36) Try.func50 rfl rfl (Nat.le_of_ble_eq_true rfl) ?_
  have hlr := hm.lr
  have hrb := hxb _ (List.getElem_mem hr2)
  refine w_seq (fun K2 hK1 => ?_)
  refine w_region ?_
  refine w_box (v := .agg #[.slice _ _ _, .slice _ _ _, .slice _ _ _]) (cs := [_, _, _]) want_none rfl rfl rfl hs (fun b3 w4 hs5 => ?_)
  refine w_alloc (cs := [_, _, _]) want_none Try.zeroValue26 rfl hs5 (fun b6 w7 hs8 => ?_)
  refine w_nil ?_
  refine q_then (hK1 _ _ ?_)
  refine w_seq (fun K10 hK9 => ?_)
  refine w_region ?_
  refine w_bslice (ps := []) (pv := []) (cs := []) want_none rfl rfl (fun w => Try_Y_fb5  w) hs8 (fun b11 w12 hs13 => ?_)
  refine w_pure want_none (y_fieldAddr (o := 0) (i := 0) Try.underlying26 rfl Try.sizeOf22 rfl rfl rfl) rfl ?_
  refine w_pure want_none (y_load1 Try.isAgg22 hs13 rfl rfl (ats_own (i := 2) (vs := [_]) rfl rfl)) rfl ?_
  refine w_append (X := ([])) (B := [_]) (rows := (rrows m.rooms)) (sz := 5) (bytes := 48) want_none Try.underlying22 Try_info69 rfl rfl rfl rfl rfl rfl rfl rfl rfl hs13 own_made hm.r.cons.cons.cons (by simp [rrows]) (sl_some hm.r (by simpa [rrows] using (by omega : 0 < m.rooms.length))) (rrows_one _) (by simp only [maxLen]; omega) (by omega) (fun v14 w15 B16 ho17 hs18 => ?_)
  replace hs18 := (show St _ _ (B16 ++ (_ :: _ :: F)) from hs18)
  rw [Nat.zero_add, List.nil_append] at ho17
  obtain ⟨bc, cap, cs0, rfl, hBC, hcap, hcapm, hcl0, hcs0⟩ := own_some ho17 (by omega)
  subst hBC
  replace hs18 := (show St _ _ (_ :: _ :: _ :: F) from hs18)
  refine w_pure want_none (y_fieldAddr (o := 0) (i := 0) Try.underlying26 rfl Try.sizeOf22 rfl rfl rfl) rfl ?_
  refine w_store (i := 2) (v := .slice _ _ _) (vs := [_]) want_none Try.sizeOf22 rfl rfl rfl rfl rfl (by simp [Value.oneCell']) hs18 rfl (Nat.le_of_ble_eq_true rfl) (fun w19 hs20 => ?_)
  refine w_nil ?_
  refine q_then (hK9 _ _ ?_)
  refine w_seq (fun K22 hK21 => ?_)
  obtain ⟨bx, ox, hbx2, hrow⟩ := sl_rrows (sl_own_rrows (w0 := w0) (L := (bc, blk 69 cs0) :: (b6, blk 26 [.slice none 0 0, .slice none 0 0, .slice none 0 0]) :: (b3, blk 26 [.slice (some ⟨bc, 0, none⟩) m.rooms.length cap, .slice p.az m.shops.length p.cs, .slice p.at_ m.trains.length p.ct]) :: F) (i := 0) rfl rfl hcs0) hr2
  cases hbx2
  refine w_region ?_
  refine w_pure want_none (y_fieldAddr (o := 0) (i := 0) Try.underlying26 rfl Try.sizeOf22 rfl rfl rfl) rfl ?_
  refine w_pure want_none (y_load1 Try.isAgg22 hs20 rfl rfl (ats_own (i := 2) (vs := [_]) rfl rfl)) rfl ?_
  refine w_pure want_none (y_move (v := .int _ _) rfl rfl) rfl ?_
  refine w_pure want_none (y_indexS Try.underlying22 Try.sizeOf69 rfl rfl rfl rfl (i := r) (by omega) (by omega)) rfl ?_
  refine w_pure want_none (y_loadN (vs := [_, _, _, _, _]) Try.isAgg69 Try.sizeOf69 hs20 rfl rfl hrow) rfl ?_
  refine w_alloc (cs := [_, _, _, _, _]) want_none Try.zeroValue69 rfl hs20 (fun b23 w24 hs25 => ?_)
  refine w_store (i := 0) (v := .agg #[.string _, .int _ _, .int _ _, .int _ _, .int _ _]) (vs := [_, _, _, _, _]) want_none Try.sizeOf69 rfl rfl rfl rfl rfl (by simp [Value.oneCell']) hs25 rfl (Nat.le_of_ble_eq_true rfl) (fun w26 hs27 => ?_)
  refine w_nil ?_
  refine q_then (hK21 _ _ ?_)
  refine w_seq (fun K29 hK28 => ?_)
  refine w_region ?_
  refine w_pure want_none (y_fieldAddr (o := 1) (i := 1) Try.underlying69 rfl Try.sizeOf67 rfl rfl rfl) rfl ?_
  refine w_pure want_none (y_fieldAddr (o := 0) (i := 0) Try.underlying67 rfl Try.sizeOf3 rfl rfl rfl) rfl ?_
  refine w_pure want_none (y_load1 Try.isAgg3 hs27 rfl rfl (ats_own (i := 0) (vs := [_]) rfl rfl)) rfl ?_
  refine w_pure want_none (y_move (v := .int _ _) rfl rfl) rfl ?_
  refine w_pure want_none (y_add rfl rfl rfl rfl (by omega) (by omega)) rfl ?_
  refine w_pure want_none (y_fieldAddr (o := 1) (i := 1) Try.underlying69 rfl Try.sizeOf67 rfl rfl rfl) rfl ?_
  refine w_pure want_none (y_fieldAddr (o := 1) (i := 1) Try.underlying67 rfl Try.sizeOf3 rfl rfl rfl) rfl ?_
  refine w_pure want_none (y_load1 Try.isAgg3 hs27 rfl rfl (ats_own (i := 0) (vs := [_]) rfl rfl)) rfl ?_
  refine w_pure want_none (y_move (v := .int _ _) rfl rfl) rfl ?_
  refine w_pure want_none (y_add rfl rfl rfl rfl (by omega) (by omega)) rfl ?_
  refine w_pure want_none (y_build (ps := [(0, _), (1, _)]) (pv := [(0, .int _ _), (1, .int _ _)]) rfl rfl (fun w => Try_Y_fb7 _ _ w)) rfl ?_
  refine w_pure want_none (y_fieldAddr (o := 1) (i := 1) Try.underlying69 rfl Try.sizeOf67 rfl rfl rfl) rfl ?_
  refine w_store (i := 0) (v := .agg #[.int _ _, .int _ _]) (vs := [_, _]) want_none Try.sizeOf67 rfl rfl rfl rfl rfl (by simp [Value.oneCell']) hs27 rfl (Nat.le_of_ble_eq_true rfl) (fun w30 hs31 => ?_)
  refine w_nil ?_
  refine q_then (hK28 _ _ ?_)
  refine w_seq (fun K33 hK32 => ?_)
  refine w_region ?_
  refine w_pure want_none (y_fieldAddr (o := 0) (i := 0) Try.underlying26 rfl Try.sizeOf22 rfl rfl rfl) rfl ?_
  refine w_pure want_none (y_load1 Try.isAgg22 hs31 rfl rfl (ats_own (i := 3) (vs := [_]) rfl rfl)) rfl ?_
  refine w_pure want_none (y_move (v := .int _ _) rfl rfl) rfl ?_
  refine w_pure want_none (y_loadN (vs := [_, _, _, _, _]) Try.isAgg69 Try.sizeOf69 hs31 rfl rfl (ats_own (i := 0) (vs := [_, _, _, _, _]) rfl rfl)) rfl ?_
  refine w_pure want_none (y_indexS Try.underlying22 Try.sizeOf69 rfl rfl rfl rfl (i := r) (by omega) (by omega)) rfl ?_
  refine w_store (i := 1) (v := .agg #[_, _, _, _, _]) (vs := [_, _, _, _, _]) want_none Try.sizeOf69 rfl rfl rfl rfl rfl (by simp [Value.oneCell']) hs31 rfl (show 0 + r * 5 + 5 ≤ cs0.length by omega) (fun w34 hs35 => ?_)
  have hcs2 : (setMany cs0 (r * 5) (addH (m.rooms[r]'hr2) x).cells).take (m.rooms.length * 5) = (rrows (addRoom m.rooms r x)).flatten := cells_room rfl hcs0 hr2
  replace hs35 := (show St _ _ (_ :: (bc, blk 69 (setMany cs0 (r * 5) (addH (m.rooms[r]'hr2) x).cells)) :: _ :: _ :: F) from (by have h6 := hs35; simp only [Nat.zero_add] at h6; exact h6))
  refine w_nil ?_
  refine q_then (hK32 _ _ ?_)
  refine w_seq (fun K37 hK36 => ?_)
  refine w_region ?_
  refine w_pure want_none (y_loadN (vs := [_, _, _]) Try.isAgg26 Try.sizeOf26 hs35 rfl rfl (ats_own (i := 3) (vs := [_, _, _]) rfl rfl)) rfl ?_
  refine w_store (i := 2) (v := .agg #[.slice _ _ _, .slice _ _ _, .slice _ _ _]) (vs := [_, _, _]) want_none Try.sizeOf26 rfl rfl rfl rfl rfl (by simp [Value.oneCell']) hs35 rfl (Nat.le_of_ble_eq_true rfl) (fun w38 hs39 => ?_)
  refine w_nil ?_
  refine q_then (hK36 _ _ ?_)
  refine w_ret ?_
  refine q_ret (l := [.cell 6 26]) (vs := [_]) rfl ⟨⟨rfl, _, rfl, run_loadVarN (vs := [_, _, _]) Try.isAgg26 Try.sizeOf26 hs39 (ats_own (i := 2) (vs := [_, _, _]) rfl rfl)⟩, trivial⟩ ?_
  exact ⟨[(bc, _)], { p with ar := some ⟨bc, 0, none⟩, cr := cap }, by rw [withM_cells]; rfl, ⟨sl_own_rrows (i := 0) rfl (addRoom_len _ _ _) hcs2, hm.s.cons, hm.t.cons, (by show (addRoom _ _ _).length ≤ _; rw [addRoom_len]; exact hm.lr), hm.ls, hm.lt, (by show (addRoom _ _ _).length ≤ cap; rw [addRoom_len]; exact hcap), hm.cs, hm.ct, (fun y hy => by rcases mem_addRoom hy with h | ⟨t, h1, h2⟩; exact hm.nr y h; rw [h2]; exact hm.nr t h1), hm.ns⟩, keep_1st hs39.tail⟩

theorem c52 {w0 w : World} {F : List (Nat × Obj)} (m : Market) (p : At3) (hm : MIn w0 F m p) (r : Nat) (hr2 : r < m.trains.length) (hxb : ∀ y ∈ m.trains, 0 ≤ y.days ∧ y.days ≤ 200) (hl6 : m.trains.length ≤ 6) (hs : St w0 w F) :
  Con Try.prog 52 [.agg (m.cells p).toArray, .int .i64 (r : Int)] w fun v w' => ∃ B p', v = .agg ((lateM m r).cells p').toArray ∧ MIn w0 (B ++ F) (lateM m r) p' ∧ St w0 w' (B ++ F) := by
  refine con_of_wc (n := 26) Try.func52 rfl rfl (Nat.le_of_ble_eq_true rfl) ?_
  have hlr := hm.lt
  have hrb := hxb _ (List.getElem_mem hr2)
  refine w_seq (fun K2 hK1 => ?_)
  refine w_region ?_
  refine w_box (v := .agg #[.slice _ _ _, .slice _ _ _, .slice _ _ _]) (cs := [_, _, _]) want_none rfl rfl rfl hs (fun b3 w4 hs5 => ?_)
  refine w_alloc (cs := [_, _, _]) want_none Try.zeroValue26 rfl hs5 (fun b6 w7 hs8 => ?_)
  refine w_nil ?_
  refine q_then (hK1 _ _ ?_)
  refine w_seq (fun K10 hK9 => ?_)
  refine w_region ?_
  refine w_bslice (ps := []) (pv := []) (cs := []) want_none rfl rfl (fun w => Try_Y_fb8  w) hs8 (fun b11 w12 hs13 => ?_)
  refine w_pure want_none (y_fieldAddr (o := 2) (i := 2) Try.underlying26 rfl Try.sizeOf24 rfl rfl rfl) rfl ?_
  refine w_pure want_none (y_load1 Try.isAgg24 hs13 rfl rfl (ats_own (i := 2) (vs := [_]) rfl rfl)) rfl ?_
  refine w_append (X := ([])) (B := [_]) (rows := (trows m.trains)) (sz := 4) (bytes := 32) want_none Try.underlying24 Try_info63 rfl rfl rfl rfl rfl rfl rfl rfl rfl hs13 own_made hm.t.cons.cons.cons (by simp [trows]) (sl_some hm.t (by simpa [trows] using (by omega : 0 < m.trains.length))) (trows_one _) (by simp only [maxLen]; omega) (by omega) (fun v14 w15 B16 ho17 hs18 => ?_)
  replace hs18 := (show St _ _ (B16 ++ (_ :: _ :: F)) from hs18)
  rw [Nat.zero_add, List.nil_append] at ho17
  obtain ⟨bc, cap, cs0, rfl, hBC, hcap, hcapm, hcl0, hcs0⟩ := own_some ho17 (by omega)
  subst hBC
  replace hs18 := (show St _ _ (_ :: _ :: _ :: F) from hs18)
  refine w_pure want_none (y_fieldAddr (o := 2) (i := 2) Try.underlying26 rfl Try.sizeOf24 rfl rfl rfl) rfl ?_
  refine w_store (i := 2) (v := .slice _ _ _) (vs := [_]) want_none Try.sizeOf24 rfl rfl rfl rfl rfl (by simp [Value.oneCell']) hs18 rfl (Nat.le_of_ble_eq_true rfl) (fun w19 hs20 => ?_)
  refine w_nil ?_
  refine q_then (hK9 _ _ ?_)
  refine w_seq (fun K22 hK21 => ?_)
  obtain ⟨bx, ox, hbx2, hrow⟩ := sl_trows (sl_own_trows (w0 := w0) (L := (bc, blk 63 cs0) :: (b6, blk 26 [.slice none 0 0, .slice none 0 0, .slice none 0 0]) :: (b3, blk 26 [.slice p.ar m.rooms.length p.cr, .slice p.az m.shops.length p.cs, .slice (some ⟨bc, 0, none⟩) m.trains.length cap]) :: F) (i := 0) rfl rfl hcs0) hr2
  cases hbx2
  refine w_region ?_
  refine w_pure want_none (y_fieldAddr (o := 2) (i := 2) Try.underlying26 rfl Try.sizeOf24 rfl rfl rfl) rfl ?_
  refine w_pure want_none (y_load1 Try.isAgg24 hs20 rfl rfl (ats_own (i := 2) (vs := [_]) rfl rfl)) rfl ?_
  refine w_pure want_none (y_move (v := .int _ _) rfl rfl) rfl ?_
  refine w_pure want_none (y_indexS Try.underlying24 Try.sizeOf63 rfl rfl rfl rfl (i := r) (by omega) (by omega)) rfl ?_
  refine w_pure want_none (y_loadN (vs := [_, _, _, _]) Try.isAgg63 Try.sizeOf63 hs20 rfl rfl hrow) rfl ?_
  refine w_alloc (cs := [_, _, _, _]) want_none Try.zeroValue63 rfl hs20 (fun b23 w24 hs25 => ?_)
  refine w_store (i := 0) (v := .agg #[.int _ _, .int _ _, .int _ _, .int _ _]) (vs := [_, _, _, _]) want_none Try.sizeOf63 rfl rfl rfl rfl rfl (by simp [Value.oneCell']) hs25 rfl (Nat.le_of_ble_eq_true rfl) (fun w26 hs27 => ?_)
  refine w_nil ?_
  refine q_then (hK21 _ _ ?_)
  refine w_seq (fun K29 hK28 => ?_)
  refine w_region ?_
  refine w_pure want_none (y_fieldAddr (o := 2) (i := 2) Try.underlying63 rfl Try.sizeOf3 rfl rfl rfl) rfl ?_
  refine w_pure want_none (y_load1 Try.isAgg3 hs27 rfl rfl (ats_own (i := 0) (vs := [_]) rfl rfl)) rfl ?_
  refine w_pure want_none (y_add rfl rfl rfl rfl (by omega) (by omega)) rfl ?_
  refine w_pure want_none (y_fieldAddr (o := 2) (i := 2) Try.underlying63 rfl Try.sizeOf3 rfl rfl rfl) rfl ?_
  refine w_store (i := 0) (v := .int _ _) (vs := [_]) want_none Try.sizeOf3 rfl rfl rfl rfl rfl (by simp [Value.oneCell']) hs27 rfl (Nat.le_of_ble_eq_true rfl) (fun w30 hs31 => ?_)
  refine w_nil ?_
  refine q_then (hK28 _ _ ?_)
  refine w_seq (fun K33 hK32 => ?_)
  refine w_region ?_
  refine w_pure want_none (y_fieldAddr (o := 2) (i := 2) Try.underlying26 rfl Try.sizeOf24 rfl rfl rfl) rfl ?_
  refine w_pure want_none (y_load1 Try.isAgg24 hs31 rfl rfl (ats_own (i := 3) (vs := [_]) rfl rfl)) rfl ?_
  refine w_pure want_none (y_move (v := .int _ _) rfl rfl) rfl ?_
  refine w_pure want_none (y_loadN (vs := [_, _, _, _]) Try.isAgg63 Try.sizeOf63 hs31 rfl rfl (ats_own (i := 0) (vs := [_, _, _, _]) rfl rfl)) rfl ?_
  refine w_pure want_none (y_indexS Try.underlying24 Try.sizeOf63 rfl rfl rfl rfl (i := r) (by omega) (by omega)) rfl ?_
  refine w_store (i := 1) (v := .agg #[_, _, _, _]) (vs := [_, _, _, _]) want_none Try.sizeOf63 rfl rfl rfl rfl rfl (by simp [Value.oneCell']) hs31 rfl (show 0 + r * 4 + 4 ≤ cs0.length by omega) (fun w34 hs35 => ?_)
  have hcs2 : (setMany cs0 (r * 4) (late (m.trains[r]'hr2)).cells).take (m.trains.length * 4) = (trows (setLate m.trains r)).flatten := cells_slow rfl hcs0 hr2
  replace hs35 := (show St _ _ (_ :: (bc, blk 63 (setMany cs0 (r * 4) (late (m.trains[r]'hr2)).cells)) :: _ :: _ :: F) from (by have h6 := hs35; simp only [Nat.zero_add] at h6; exact h6))
  refine w_nil ?_
  refine q_then (hK32 _ _ ?_)
  refine w_seq (fun K37 hK36 => ?_)
  refine w_region ?_
  refine w_pure want_none (y_loadN (vs := [_, _, _]) Try.isAgg26 Try.sizeOf26 hs35 rfl rfl (ats_own (i := 3) (vs := [_, _, _]) rfl rfl)) rfl ?_
  refine w_store (i := 2) (v := .agg #[.slice _ _ _, .slice _ _ _, .slice _ _ _]) (vs := [_, _, _]) want_none Try.sizeOf26 rfl rfl rfl rfl rfl (by simp [Value.oneCell']) hs35 rfl (Nat.le_of_ble_eq_true rfl) (fun w38 hs39 => ?_)
  refine w_nil ?_
  refine q_then (hK36 _ _ ?_)
  refine w_ret ?_
  refine q_ret (l := [.cell 4 26]) (vs := [_]) rfl ⟨⟨rfl, _, rfl, run_loadVarN (vs := [_, _, _]) Try.isAgg26 Try.sizeOf26 hs39 (ats_own (i := 2) (vs := [_, _, _]) rfl rfl)⟩, trivial⟩ ?_
  exact ⟨[(bc, _)], { p with at_ := some ⟨bc, 0, none⟩, ct := cap }, by rw [lateM_cells]; rfl, ⟨hm.r.cons, hm.s.cons, sl_own_trows (i := 0) rfl (setLate_len _ _) hcs2, hm.lr, hm.ls, (by show (setLate _ _).length ≤ _; rw [setLate_len]; exact hm.lt), hm.cr, hm.cs, (by show (setLate _ _).length ≤ cap; rw [setLate_len]; exact hcap), hm.nr, hm.ns⟩, keep_1st hs39.tail⟩

end Go.Proofs
