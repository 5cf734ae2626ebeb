/- Own texts of this claim, joined. No conditions. -/
import Derived.Test.YtbnnmjfjibneaaaHShopLatea
import Derived.Test.YtbnnmjfjibneaaaHShopLateb
import Derived.Test.YtbnnmjfjibneaaaHShopLatec
import Derived.Test.YtbnnmjfjibneaaaHShopLated
import Derived.Test.YtbnnmjfjibneaaaHShopLatee
import Derived.Test.YtbnnmjfjibneaaaHShopLatef
import Derived.Test.YtbnnmjfjibneaaaHShopLateg
/- Walks of this seat, printed by gen.py over the engine: what each function returns, in whatever world. No conditions but those of each contract. -/
set_option linter.unusedVariables false
set_option linter.unusedSimpArgs false
set_option maxRecDepth 20000
namespace Go.Proofs
open Go.Rt Go.Rt.Sh
attribute [local irreducible] WL WC Con Yd At Ats Sl Agree DW

theorem late_con {w0 w : World} {F : List (Nat × Obj)} (m : Market) (p : At3) (hm : MIn w0 F m p) (r : Nat) (z : Int) (hz : z = r) (hs : St w0 w F) :
    Con Try.prog 32 [.agg (m.cells p).toArray, .int .i64 z] w fun v w' => v = .tuple #[.int .i64 (lateP m r).1, .int .i64 (lateP m r).2] ∧ St w0 w' F := by
  subst hz; exact c32 m p hm r hs
theorem slow_con {w0 w : World} {F : List (Nat × Obj)} (m : Market) (p : At3) (hm : MIn w0 F m p) (r : Nat) (hr2 : r < m.trains.length) (hxb : ∀ y ∈ m.trains, 0 ≤ y.days ∧ y.days ≤ 200) (hl6 : m.trains.length ≤ 6) (z : Int) (hz : z = r) (hs : St w0 w F) :
    Con Try.prog 52 [.agg (m.cells p).toArray, .int .i64 z] w fun v w' => ∃ B p', v = .agg ((lateM m r).cells p').toArray ∧ MIn w0 (B ++ F) (lateM m r) p' ∧ St w0 w' (B ++ F) := by
  subst hz; exact c52 m p hm r hr2 hxb hl6 hs
theorem c14 {w0 w : World} {F : List (Nat × Obj)} (m : Market) (p : At3) (hm : MIn w0 F m p) (z : Int) (hz : 0 ≤ z ∧ z ≤ 255) (hs : St w0 w F) :
  Con Try.prog 14 [.agg (m.cells p).toArray, .int .u8 z] w fun v w' => v = .bool true ∧ St w0 w' F := by
  refine con_of_wc (n := 144) Try.func14 rfl rfl (Nat.le_of_ble_eq_true rfl) ?_
  have hlt0 := hm.lt
  refine w_seq (fun K2 hK1 => ?_)
  refine w_region ?_
  refine w_box (v := .agg #[.slice _ _ _, .slice _ _ _, .slice _ _ _]) (cs := [_, _, _]) want_none rfl rfl rfl hs (fun b3 w4 hs5 => ?_)
  refine w_pure want_none (y_assign (v := _) rfl rfl) rfl ?_
  refine w_nil ?_
  refine q_then (hK1 _ _ ?_)
  refine w_seq (fun K7 hK6 => ?_)
  refine w_seq (fun K9 hK8 => ?_)
  have hbx : Ats w0 ((b3, blk 26 (m.cells p)) :: F) b3 0 (m.cells p) := ats_own (i := 0) (vs := m.cells p) rfl rfl
  refine w_region ?_
  refine w_pure want_none (y_loadN (vs := [_, _, _]) Try.isAgg26 Try.sizeOf26 hs5 rfl rfl hbx) rfl ?_
  refine w_call want_none Try.call35 rfl rfl rfl rfl (c35 m _ hm.cons hs5) ?_
  rintro _ w11 ⟨rfl, hs12⟩
  refine w_pure want_none (y_not rfl rfl) rfl ?_
  refine w_pure want_none (y_move (v := .bool _) rfl rfl) rfl ?_
  refine w_split (fun h13 => ?_) (fun h13 => ?_)
  ·
   try simp only [Bool.not_eq_true', Bool.not_eq_false', decide_eq_true_eq, decide_eq_false_iff_not, Int.not_lt, Int.not_le] at h13
   refine w_skipop rfl rfl rfl ?_
   refine w_skipop rfl rfl rfl ?_
   refine w_skipop rfl rfl rfl ?_
   refine w_skipop rfl rfl rfl ?_
   refine w_pure want_none (y_pickT (v := _) rfl rfl rfl rfl) rfl ?_
   refine w_nil ?_
   refine q_then (hK8 _ _ ?_)
   refine w_condT rfl rfl ?_
   refine w_seq (fun K15 hK14 => ?_)
   have hbad : (check m).2.2 ≠ 0 ∨ m.trains.length = 0 := by first | (left; intro h0; simp_all; done) | (right; omega)
   have hmb := lateP_bad (z := 0) hbad
   refine w_region ?_
   refine w_pure want_none (y_loadN (vs := [_, _, _]) Try.isAgg26 Try.sizeOf26 hs12 rfl rfl hbx) rfl ?_
   refine w_call want_none Try.call32 rfl rfl rfl rfl (c32 m _ hm.cons 0 hs12) ?_
   rintro _ w17 ⟨rfl, hs18⟩
   refine w_pure want_none (y_move (v := .tuple _) rfl rfl) rfl ?_
   refine w_pure want_none (y_extract (v := .int _ _) rfl rfl rfl) rfl ?_
   refine w_pure want_none (y_extract (v := .int _ _) rfl rfl rfl) rfl ?_
   refine w_pure want_none (y_assign (v := .int _ _) rfl rfl) rfl ?_
   refine w_pure want_none (y_assign (v := .int _ _) rfl rfl) rfl ?_
   refine w_nil ?_
   refine q_then (hK14 _ _ ?_)
   refine w_seq (fun K20 hK19 => ?_)
   refine w_region ?_
   refine w_pure want_none (y_move (v := .int _ _) rfl rfl) rfl ?_
   refine w_pure want_none (y_neq rfl rfl rfl rfl) rfl ?_
   refine w_pure want_none (y_move (v := .bool _) rfl rfl) rfl ?_
   refine w_split (fun h21 => ?_) (fun h21 => ?_)
   ·
    try simp only [Bool.not_eq_true', Bool.not_eq_false', decide_eq_true_eq, decide_eq_false_iff_not, Int.not_lt, Int.not_le] at h21
    refine w_call (want_yes rfl rfl rfl) Try.call21 rfl rfl rfl rfl (c21 hs18) ?_
    rintro _ w23 ⟨rfl, hs24⟩
    refine w_pure want_none (y_pickT (v := .bool _) rfl rfl rfl rfl) rfl ?_
    refine w_pure want_none (y_assign (v := .bool _) rfl rfl) rfl ?_
    refine w_nil ?_
    refine q_then (hK19 _ _ ?_)
    refine w_ret ?_
    refine q_then_ret ?_
    refine q_ret (l := [.tmp 4]) (vs := [_]) rfl ⟨⟨rfl, show _ = (.bool _ : Value) from rfl⟩, trivial⟩ ?_
    exact ⟨rfl, hs24.tail⟩
   ·
    exfalso
    try simp only [Bool.not_eq_true', Bool.not_eq_false', decide_eq_true_eq, decide_eq_false_iff_not, Int.not_lt, Int.not_le] at h21
    exact hmb h21
  ·
   try simp only [Bool.not_eq_true', Bool.not_eq_false', decide_eq_true_eq, decide_eq_false_iff_not, Int.not_lt, Int.not_le] at h13
   refine w_pure (want_yes rfl rfl rfl) (y_fieldAddr (o := 2) (i := 2) Try.underlying26 rfl Try.sizeOf24 rfl rfl rfl) rfl ?_
   refine w_pure (want_yes rfl rfl rfl) (y_load1 Try.isAgg24 hs12 rfl rfl (show Ats _ _ _ _ [_] from Ats.part hbx 2 1)) rfl ?_
   refine w_pure (want_yes rfl rfl rfl) (y_lenS Try.underlying24 rfl rfl) rfl ?_
   refine w_pure (want_yes rfl rfl rfl) (y_eql rfl rfl rfl rfl) rfl ?_
   refine w_pure want_none (y_pickF (v := .bool _) rfl rfl rfl rfl) rfl ?_
   refine w_nil ?_
   refine q_then (hK8 _ _ ?_)
   refine w_cond rfl rfl (fun h25 => ?_) (fun h25 => ?_)
   ·
    try simp only [Bool.not_eq_true', Bool.not_eq_false', decide_eq_true_eq, decide_eq_false_iff_not, Int.not_lt, Int.not_le] at h25
    refine w_seq (fun K27 hK26 => ?_)
    have hbad : (check m).2.2 ≠ 0 ∨ m.trains.length = 0 := by first | (left; intro h0; simp_all; done) | (right; omega)
    have hmb := lateP_bad (z := 0) hbad
    refine w_region ?_
    refine w_pure want_none (y_loadN (vs := [_, _, _]) Try.isAgg26 Try.sizeOf26 hs12 rfl rfl hbx) rfl ?_
    refine w_call want_none Try.call32 rfl rfl rfl rfl (c32 m _ hm.cons 0 hs12) ?_
    rintro _ w29 ⟨rfl, hs30⟩
    refine w_pure want_none (y_move (v := .tuple _) rfl rfl) rfl ?_
    refine w_pure want_none (y_extract (v := .int _ _) rfl rfl rfl) rfl ?_
    refine w_pure want_none (y_extract (v := .int _ _) rfl rfl rfl) rfl ?_
    refine w_pure want_none (y_assign (v := .int _ _) rfl rfl) rfl ?_
    refine w_pure want_none (y_assign (v := .int _ _) rfl rfl) rfl ?_
    refine w_nil ?_
    refine q_then (hK26 _ _ ?_)
    refine w_seq (fun K32 hK31 => ?_)
    refine w_region ?_
    refine w_pure want_none (y_move (v := .int _ _) rfl rfl) rfl ?_
    refine w_pure want_none (y_neq rfl rfl rfl rfl) rfl ?_
    refine w_pure want_none (y_move (v := .bool _) rfl rfl) rfl ?_
    refine w_split (fun h33 => ?_) (fun h33 => ?_)
    ·
     try simp only [Bool.not_eq_true', Bool.not_eq_false', decide_eq_true_eq, decide_eq_false_iff_not, Int.not_lt, Int.not_le] at h33
     refine w_call (want_yes rfl rfl rfl) Try.call21 rfl rfl rfl rfl (c21 hs30) ?_
     rintro _ w35 ⟨rfl, hs36⟩
     refine w_pure want_none (y_pickT (v := .bool _) rfl rfl rfl rfl) rfl ?_
     refine w_pure want_none (y_assign (v := .bool _) rfl rfl) rfl ?_
     refine w_nil ?_
     refine q_then (hK31 _ _ ?_)
     refine w_ret ?_
     refine q_then_ret ?_
     refine q_ret (l := [.tmp 4]) (vs := [_]) rfl ⟨⟨rfl, show _ = (.bool _ : Value) from rfl⟩, trivial⟩ ?_
     exact ⟨rfl, hs36.tail⟩
    ·
     exfalso
     try simp only [Bool.not_eq_true', Bool.not_eq_false', decide_eq_true_eq, decide_eq_false_iff_not, Int.not_lt, Int.not_le] at h33
     exact hmb h33
   ·
    try simp only [Bool.not_eq_true', Bool.not_eq_false', decide_eq_true_eq, decide_eq_false_iff_not, Int.not_lt, Int.not_le] at h25
    refine w_skip ?_
    refine q_then (hK6 _ _ ?_)
    refine w_seq (fun K38 hK37 => ?_)
    have hck : (check m).2.2 = 0 := by first | assumption | (refine Decidable.byContradiction fun h0 => ?_; simp_all)
    have hok := check_ok hck
    have hlr := hok.lr
    have hls := hok.ls
    have hlt := hok.lt
    have hrn : 0 < m.trains.length := by omega
    have hot := othersTo_len [] m.shops.length
    have hq0 := Int.emod_nonneg z (show (m.trains.length : Int) ≠ 0 by omega)
    have hq1 := Int.emod_lt_of_pos z (show 0 < (m.trains.length : Int) by omega)
    obtain ⟨q, hqe⟩ : ∃ q : Nat, (z % (m.trains.length : Int)) = (q : Int) := ⟨((z % (m.trains.length : Int))).toNat, by omega⟩
    have hq2 : q < m.trains.length := by omega
    have hlm : (lateM m q).trains.length = m.trains.length := setLate_len _ _
    have hq3 : q < (lateM m q).trains.length := by omega
    have hokl := lateM_ok hck q
    have hF := late_facts hck hq2
    have hcap := hF.cap
    have hnn := hF.nn
    have htt := hok.train _ (List.getElem_mem hq2)
    have hlat := lateM_at hq2 hq3
    refine w_region ?_
    refine w_pure want_none (y_move (v := .int _ _) rfl rfl) rfl ?_
    refine w_pure want_none (y_u8int (by rw [Try.underlying5]; rfl) Try.underlying3 rfl rfl (by omega) (by omega)) rfl ?_
    refine w_pure want_none (y_fieldAddr (o := 2) (i := 2) Try.underlying26 rfl Try.sizeOf24 rfl rfl rfl) rfl ?_
    refine w_pure want_none (y_load1 Try.isAgg24 hs12 rfl rfl (show Ats _ _ _ _ [_] from Ats.part hbx 2 1)) rfl ?_
    refine w_pure want_none (y_lenS Try.underlying24 rfl rfl) rfl ?_
    refine w_pure want_none (y_rem rfl rfl rfl rfl (by omega) (by omega)) rfl ?_
    refine w_pure want_none (y_assign (v := .int _ _) rfl rfl) rfl ?_
    refine w_nil ?_
    refine q_then (hK37 _ _ ?_)
    refine w_seq (fun K40 hK39 => ?_)
    refine w_region ?_
    refine w_pure want_none (y_loadN (vs := [_, _, _]) Try.isAgg26 Try.sizeOf26 hs12 rfl rfl hbx) rfl ?_
    refine w_pure want_none (y_move (v := .int _ _) rfl rfl) rfl ?_
    refine w_call want_none Try.call32 rfl rfl rfl rfl (late_con m _ hm.cons q _ hqe hs12) ?_
    rintro _ w42 ⟨rfl, hs43⟩
    refine w_pure want_none (y_move (v := .tuple _) rfl rfl) rfl ?_
    refine w_pure want_none (y_extract (v := .int _ _) rfl rfl rfl) rfl ?_
    refine w_pure want_none (y_extract (v := .int _ _) rfl rfl rfl) rfl ?_
    refine w_pure want_none (y_assign (v := .int _ _) rfl rfl) rfl ?_
    refine w_pure want_none (y_assign (v := .int _ _) rfl rfl) rfl ?_
    refine w_nil ?_
    refine q_then (hK39 _ _ ?_)
    refine w_seq (fun K45 hK44 => ?_)
    refine w_region ?_
    refine w_pure want_none (y_loadN (vs := [_, _, _]) Try.isAgg26 Try.sizeOf26 hs43 rfl rfl hbx) rfl ?_
    refine w_pure want_none (y_move (v := .int _ _) rfl rfl) rfl ?_
    refine w_call want_none Try.call52 rfl rfl rfl rfl (slow_con m _ hm.cons q hq2 (fun y hy => by have := hok.train y hy; omega) hlt _ hqe hs43) ?_
    rintro _ w47 ⟨BS, p2, rfl, hm2, hs48⟩
    replace hs48 := (show St _ _ (BS ++ (_ :: F)) from hs48)
    refine w_alloc (cs := [_, _, _]) want_none Try.zeroValue26 rfl hs48 (fun b49 w50 hs51 => ?_)
    refine w_store (i := 0) (v := .agg #[.slice _ _ _, .slice _ _ _, .slice _ _ _]) (vs := [_, _, _]) want_none Try.sizeOf26 rfl rfl rfl rfl rfl (by simp [Value.oneCell']) hs51 rfl (Nat.le_of_ble_eq_true rfl) (fun w52 hs53 => ?_)
    refine w_nil ?_
    refine q_then (hK44 _ _ ?_)
    refine w_seq (fun K55 hK54 => ?_)
    replace hs53 := (show St _ _ ((b49, blk 26 ((lateM m q).cells p2)) :: (BS ++ ((b3, blk 26 (m.cells p)) :: F)) ) from hs53)
    have hb10 : Ats w0 ((b49, blk 26 ((lateM m q).cells p2)) :: (BS ++ ((b3, blk 26 (m.cells p)) :: F))) b49 0 ((lateM m q).cells p2) := ats_own (i := 0) (vs := _) rfl rfl
    obtain ⟨bt, ot, hbt, hxt⟩ := sl_trows hm.t hq2
    obtain ⟨bu, ou, hbu, hxu⟩ := sl_trows hm2.t hq3
    refine w_draw [] [(0, 1), (1, 0), (2, 1), (3, 0), (4, 0), (5, 1), (7, 1), (8, 0), (9, 1), (10, 0), (11, 0), (12, 1), (6, 2), (13, 2), (14, 0), (15, 0)] Try_mo (by kernel_rfl) hs53 (fun w56 hs57 => ?_)
    refine d_take rfl want_none rfl hs57 (fun _ hq => (y_loadN (vs := [_, _, _]) Try.isAgg26 Try.sizeOf26 hq.tail.drop rfl rfl hbx)) ?_
    refine d_any rfl want_none rfl (fun _ => (y_fieldAddr (o := 2) (i := 2) Try.underlying26 rfl Try.sizeOf24 rfl rfl rfl)) ?_
    refine d_take rfl want_none rfl hs57 (fun _ hq => (yd_slice hbt (y_load1 Try.isAgg24 hq.tail.drop rfl rfl (show Ats _ _ _ _ [_] from Ats.part hbx 2 1)))) ?_
    refine d_any rfl want_none rfl (fun _ => (y_move (v := .int _ _) rfl rfl)) ?_
    refine d_any rfl want_none rfl (fun _ => (y_indexS Try.underlying24 Try.sizeOf63 rfl rfl rfl rfl (i := q) (by omega) (by omega))) ?_
    refine d_take rfl want_none rfl hs57 (fun _ hq => (y_loadN (vs := [_, _, _, _]) Try.isAgg63 Try.sizeOf63 hq.tail.drop.tail rfl rfl hxt)) ?_
    refine d_take rfl want_none rfl hs57 (fun _ hq => (y_loadN (vs := [_, _, _]) Try.isAgg26 Try.sizeOf26 hq rfl rfl hb10)) ?_
    refine d_any rfl want_none rfl (fun _ => (y_fieldAddr (o := 2) (i := 2) Try.underlying26 rfl Try.sizeOf24 rfl rfl rfl)) ?_
    refine d_take rfl want_none rfl hs57 (fun _ hq => (yd_slice hbu (y_load1 Try.isAgg24 hq rfl rfl (show Ats _ _ _ _ [_] from Ats.part hb10 2 1)))) ?_
    refine d_any rfl want_none rfl (fun _ => (y_move (v := .int _ _) rfl rfl)) ?_
    refine d_any rfl want_none rfl (fun _ => (y_indexS Try.underlying24 Try.sizeOf63 rfl rfl rfl rfl (i := q) (by omega) (by omega))) ?_
    refine d_take rfl want_none rfl hs57 (fun _ hq => (y_loadN (vs := [_, _, _, _]) Try.isAgg63 Try.sizeOf63 hq.tail rfl rfl hxu)) ?_
    refine d_eff rfl ?_
    refine w_call want_none Try.call53 rfl rfl rfl rfl (c53 m _ hm.cons.app.cons hok _ (List.getElem_mem hq2) hs57) ?_
    rintro _ w59 ⟨rfl, hs60⟩
    refine w_nil ?_
    refine qn ⟨hs60, ?_⟩
    refine d_eff rfl ?_
    refine w_call want_none Try.call53 rfl rfl rfl rfl (c53 (lateM m q) _ hm2.cons hokl _ (List.getElem_mem hq3) hs60) ?_
    rintro _ w62 ⟨rfl, hs63⟩
    refine w_nil ?_
    refine qn ⟨hs63, ?_⟩
    refine d_any rfl want_none rfl (fun _ => (y_assign (v := .bool _) rfl rfl)) ?_
    refine d_any rfl want_none rfl (fun _ => (y_assign (v := .bool _) rfl rfl)) ?_
    refine d_nil ?_
    refine q_then (hK54 _ _ ?_)
    refine w_seq (fun K65 hK64 => ?_)
    refine w_seq (fun K67 hK66 => ?_)
    refine w_region ?_
    refine w_pure want_none (y_move (v := .int _ _) rfl rfl) rfl ?_
    refine w_pure want_none (y_neq rfl rfl rfl rfl) rfl ?_
    refine w_pure want_none (y_move (v := .bool _) rfl rfl) rfl ?_
    refine w_split (fun h68 => ?_) (fun h68 => ?_)
    ·
     exfalso
     try simp only [Bool.not_eq_true', Bool.not_eq_false', decide_eq_true_eq, decide_eq_false_iff_not, Int.not_lt, Int.not_le] at h68
     exact h68 hF.e0
    ·
     try simp only [Bool.not_eq_true', Bool.not_eq_false', decide_eq_true_eq, decide_eq_false_iff_not, Int.not_lt, Int.not_le] at h68
     refine w_pure (want_yes rfl rfl rfl) (y_move (v := .int _ _) rfl rfl) rfl ?_
     refine w_pure (want_yes rfl rfl rfl) (y_lss rfl rfl rfl rfl) rfl ?_
     refine w_pure want_none (y_pickF (v := .bool _) rfl rfl rfl rfl) rfl ?_
     refine w_pure want_none (y_move (v := .bool _) rfl rfl) rfl ?_
     refine w_split (fun h69 => ?_) (fun h69 => ?_)
     ·
      exfalso
      try simp only [Bool.not_eq_true', Bool.not_eq_false', decide_eq_true_eq, decide_eq_false_iff_not, Int.not_lt, Int.not_le] at h69
      omega
     ·
      try simp only [Bool.not_eq_true', Bool.not_eq_false', decide_eq_true_eq, decide_eq_false_iff_not, Int.not_lt, Int.not_le] at h69
      refine w_pure (want_yes rfl rfl rfl) (y_move (v := .int _ _) rfl rfl) rfl ?_
      refine w_pure (want_yes rfl rfl rfl) (y_fieldAddr (o := 2) (i := 2) Try.underlying26 rfl Try.sizeOf24 rfl rfl rfl) rfl ?_
      refine w_pure (want_yes rfl rfl rfl) (yd_slice hbt (y_load1 Try.isAgg24 hs63.tail.drop rfl rfl (show Ats _ _ _ _ [_] from Ats.part hbx 2 1))) rfl ?_
      refine w_pure (want_yes rfl rfl rfl) (y_move (v := .int _ _) rfl rfl) rfl ?_
      refine w_pure (want_yes rfl rfl rfl) (y_indexS Try.underlying24 Try.sizeOf63 rfl rfl rfl rfl (i := q) (by omega) (by omega)) rfl ?_
      refine w_pure (want_yes rfl rfl rfl) (y_fieldAddr (o := 3) (i := 3) Try.underlying63 rfl Try.sizeOf3 rfl rfl rfl) rfl ?_
      refine w_pure (want_yes rfl rfl rfl) (y_load1 Try.isAgg3 hs63.tail.drop.tail rfl rfl (show Ats _ _ _ _ [_] from Ats.part hxt 3 1)) rfl ?_
      refine w_pure (want_yes rfl rfl rfl) (y_gtr rfl rfl rfl rfl) rfl ?_
      refine w_pure want_none (y_pickF (v := .bool _) rfl rfl rfl rfl) rfl ?_
      refine w_pure want_none (y_move (v := .bool _) rfl rfl) rfl ?_
      refine w_split (fun h70 => ?_) (fun h70 => ?_)
      ·
       exfalso
       try simp only [Bool.not_eq_true', Bool.not_eq_false', decide_eq_true_eq, decide_eq_false_iff_not, Int.not_lt, Int.not_le] at h70
       omega
      ·
       try simp only [Bool.not_eq_true', Bool.not_eq_false', decide_eq_true_eq, decide_eq_false_iff_not, Int.not_lt, Int.not_le] at h70
       refine w_pure (want_yes rfl rfl rfl) (y_move (v := .bool _) rfl rfl) rfl ?_
       refine w_pure (want_yes rfl rfl rfl) (y_move (v := .bool _) rfl rfl) rfl ?_
       refine w_pure (want_yes rfl rfl rfl) (y_eqB Try.underlying4 rfl rfl rfl rfl) rfl ?_
       refine w_pure (want_yes rfl rfl rfl) (y_move (v := .bool _) rfl rfl) rfl ?_
       refine w_split (fun h71 => ?_) (fun h71 => ?_)
       ·
        try simp only [Bool.not_eq_true', Bool.not_eq_false', decide_eq_true_eq, decide_eq_false_iff_not, Int.not_lt, Int.not_le] at h71
        refine w_pure (want_yes rfl rfl rfl) (y_move (v := .int _ _) rfl rfl) rfl ?_
        refine w_pure (want_yes rfl rfl rfl) (y_neq rfl rfl rfl rfl) rfl ?_
        refine w_pure (want_yes rfl rfl rfl) (y_pickT (v := .bool _) rfl rfl rfl rfl) rfl ?_
        refine w_pure want_none (y_pickF (v := .bool _) rfl rfl rfl rfl) rfl ?_
        refine w_pure want_none (y_move (v := .bool _) rfl rfl) rfl ?_
        refine w_split (fun h72 => ?_) (fun h72 => ?_)
        ·
         exfalso
         try simp only [Bool.not_eq_true', Bool.not_eq_false', decide_eq_true_eq, decide_eq_false_iff_not, Int.not_lt, Int.not_le] at h72
         exact h72 (hF.same (by rw [← hlat]; assumption))
        ·
         try simp only [Bool.not_eq_true', Bool.not_eq_false', decide_eq_true_eq, decide_eq_false_iff_not, Int.not_lt, Int.not_le] at h72
         refine w_pure (want_yes rfl rfl rfl) (y_move (v := .bool _) rfl rfl) rfl ?_
         refine w_pure (want_yes rfl rfl rfl) (y_not rfl rfl) rfl ?_
         refine w_pure (want_yes rfl rfl rfl) (y_move (v := .bool _) rfl rfl) rfl ?_
         refine w_split (fun h73 => ?_) (fun h73 => ?_)
         ·
          try simp only [Bool.not_eq_true', Bool.not_eq_false', decide_eq_true_eq, decide_eq_false_iff_not, Int.not_lt, Int.not_le] at h73
          refine w_pure (want_yes rfl rfl rfl) (y_move (v := .int _ _) rfl rfl) rfl ?_
          refine w_pure (want_yes rfl rfl rfl) (y_neq rfl rfl rfl rfl) rfl ?_
          refine w_pure (want_yes rfl rfl rfl) (y_pickT (v := .bool _) rfl rfl rfl rfl) rfl ?_
          refine w_pure want_none (y_pickF (v := .bool _) rfl rfl rfl rfl) rfl ?_
          refine w_nil ?_
          refine q_then (hK66 _ _ ?_)
          refine w_cond rfl rfl (fun h74 => ?_) (fun h74 => ?_)
          ·
           exfalso
           try simp only [Bool.not_eq_true', Bool.not_eq_false', decide_eq_true_eq, decide_eq_false_iff_not, Int.not_lt, Int.not_le] at h74
           exact h74 (hF.stay (by assumption))
          ·
           try simp only [Bool.not_eq_true', Bool.not_eq_false', decide_eq_true_eq, decide_eq_false_iff_not, Int.not_lt, Int.not_le] at h74
           refine w_skip ?_
           refine q_then (hK64 _ _ ?_)
           refine w_seq (fun K76 hK75 => ?_)
           refine w_seq (fun K78 hK77 => ?_)
           refine w_region ?_
           refine w_pure want_none (y_loadN (vs := [_, _, _]) Try.isAgg26 Try.sizeOf26 hs63 rfl rfl hb10) rfl ?_
           refine w_call want_none Try.call35 rfl rfl rfl rfl (c35 (lateM m q) _ hm2.cons hs63) ?_
           rintro _ w80 ⟨rfl, hs81⟩
           refine w_pure want_none (y_not rfl rfl) rfl ?_
           refine w_nil ?_
           refine q_then (hK77 _ _ ?_)
           refine w_cond rfl rfl (fun h82 => ?_) (fun h82 => ?_)
           ·
            try simp only [Bool.not_eq_true', Bool.not_eq_false', decide_eq_true_eq, decide_eq_false_iff_not, Int.not_lt, Int.not_le] at h82
            refine w_seq (fun K84 hK83 => ?_)
            refine w_region ?_
            refine w_call want_none Try.call21 rfl rfl rfl rfl (c21 hs81) ?_
            rintro _ w86 ⟨rfl, hs87⟩
            refine w_pure want_none (y_assign (v := .bool _) rfl rfl) rfl ?_
            refine w_nil ?_
            refine q_then (hK83 _ _ ?_)
            refine w_ret ?_
            refine q_then_ret ?_
            refine q_ret (l := [.tmp 4]) (vs := [_]) rfl ⟨⟨rfl, show _ = (.bool _ : Value) from rfl⟩, trivial⟩ ?_
            exact ⟨rfl, hs87.tail.drop.tail⟩
           ·
            try simp only [Bool.not_eq_true', Bool.not_eq_false', decide_eq_true_eq, decide_eq_false_iff_not, Int.not_lt, Int.not_le] at h82
            refine w_skip ?_
            refine q_then (hK75 _ _ ?_)
            refine w_seq (fun K89 hK88 => ?_)
            have hcl : (check (lateM m q)).2.2 = 0 := by first | assumption | (refine Decidable.byContradiction fun h0 => ?_; simp_all)
            have hpf := hF.pf
            have hps := hF.ps hcl
            have heq := hF.eq hcl
            have hb1 := hF.b1
            have hb2 := hF.b2 hcl
            rw [show allL' m = (othersTo [] m.shops.length) from rfl] at hpf hps heq hb1 hb2
            refine w_region ?_
            refine w_pure want_none (y_loadN (vs := [_, _, _]) Try.isAgg26 Try.sizeOf26 hs81.tail.drop rfl rfl hbx) rfl ?_
            refine w_call want_none Try.call48 rfl rfl rfl rfl (c48 m _ hm.cons.app.cons hok  hs81) ?_
            rintro _ w91 ⟨AB, a_AB, c_AB, rfl, hs_AB, hs92⟩
            replace hs92 := (show St _ _ (AB ++ (_ :: BS ++ (_ :: F))) from hs92)
            refine w_pure want_none (y_assign (v := .slice _ _ _) rfl rfl) rfl ?_
            refine w_nil ?_
            refine q_then (hK88 _ _ ?_)
            refine w_seq (fun K94 hK93 => ?_)
            refine w_region ?_
            refine w_pure want_none (y_loadN (vs := [_, _, _]) Try.isAgg26 Try.sizeOf26 hs92.drop.tail.drop rfl rfl hbx) rfl ?_
            refine w_pure want_none (y_move (v := .slice _ _ _) rfl rfl) rfl ?_
            refine w_call want_none Try.call24 rfl rfl rfl rfl (c24 m _ hm.cons.app.cons.app _ _ (othersTo [] m.shops.length) (by omega) hs_AB.top hs92) ?_
            rintro _ w96 ⟨B1, a1, c1, rfl, hq1x, hs97⟩
            replace hs97 := (show St _ _ (B1 ++ (AB ++ (_ :: BS ++ (_ :: F)))) from hs97)
            refine w_pure want_none (y_move (v := .tuple _) rfl rfl) rfl ?_
            refine w_pure want_none (y_extract (v := .slice _ _ _) rfl rfl rfl) rfl ?_
            refine w_pure want_none (y_extract (v := .int _ _) rfl rfl rfl) rfl ?_
            refine w_pure want_none (y_extract (v := .int _ _) rfl rfl rfl) rfl ?_
            refine w_pure want_none (y_assign (v := .slice _ _ _) rfl rfl) rfl ?_
            refine w_pure want_none (y_assign (v := .int _ _) rfl rfl) rfl ?_
            refine w_pure want_none (y_assign (v := .int _ _) rfl rfl) rfl ?_
            refine w_nil ?_
            refine q_then (hK93 _ _ ?_)
            refine w_seq (fun K99 hK98 => ?_)
            refine w_region ?_
            refine w_pure want_none (y_loadN (vs := [_, _, _]) Try.isAgg26 Try.sizeOf26 hs97.drop.drop rfl rfl hb10) rfl ?_
            refine w_pure want_none (y_move (v := .slice _ _ _) rfl rfl) rfl ?_
            refine w_call want_none Try.call24 rfl rfl rfl rfl (c24 (lateM m q) _ hm2.cons.app.app _ _ (othersTo [] m.shops.length) (by omega) hs_AB.top.app hs97) ?_
            rintro _ w101 ⟨B2, a2, c2, rfl, hq2x, hs102⟩
            replace hs102 := (show St _ _ (B2 ++ (B1 ++ (AB ++ (_ :: BS ++ (_ :: F))))) from hs102)
            refine w_pure want_none (y_move (v := .tuple _) rfl rfl) rfl ?_
            refine w_pure want_none (y_extract (v := .slice _ _ _) rfl rfl rfl) rfl ?_
            refine w_pure want_none (y_extract (v := .int _ _) rfl rfl rfl) rfl ?_
            refine w_pure want_none (y_extract (v := .int _ _) rfl rfl rfl) rfl ?_
            refine w_pure want_none (y_assign (v := .slice _ _ _) rfl rfl) rfl ?_
            refine w_pure want_none (y_assign (v := .int _ _) rfl rfl) rfl ?_
            refine w_pure want_none (y_assign (v := .int _ _) rfl rfl) rfl ?_
            refine w_nil ?_
            refine q_then (hK98 _ _ ?_)
            refine w_seq (fun K104 hK103 => ?_)
            refine w_seq (fun K106 hK105 => ?_)
            refine w_region ?_
            refine w_pure want_none (y_move (v := .int _ _) rfl rfl) rfl ?_
            refine w_pure want_none (y_neq rfl rfl rfl rfl) rfl ?_
            refine w_pure want_none (y_move (v := .bool _) rfl rfl) rfl ?_
            refine w_split (fun h107 => ?_) (fun h107 => ?_)
            ·
             try simp only [Bool.not_eq_true', Bool.not_eq_false', decide_eq_true_eq, decide_eq_false_iff_not, Int.not_lt, Int.not_le] at h107
             refine w_pure (want_yes rfl rfl rfl) (y_move (v := .int _ _) rfl rfl) rfl ?_
             refine w_pure (want_yes rfl rfl rfl) (y_neq rfl rfl rfl rfl) rfl ?_
             refine w_pure want_none (y_pickT (v := .bool _) rfl rfl rfl rfl) rfl ?_
             refine w_pure want_none (y_move (v := .bool _) rfl rfl) rfl ?_
             refine w_split (fun h108 => ?_) (fun h108 => ?_)
             ·
              exfalso
              try simp only [Bool.not_eq_true', Bool.not_eq_false', decide_eq_true_eq, decide_eq_false_iff_not, Int.not_lt, Int.not_le] at h108
              omega
             ·
              try simp only [Bool.not_eq_true', Bool.not_eq_false', decide_eq_true_eq, decide_eq_false_iff_not, Int.not_lt, Int.not_le] at h108
              refine w_pure (want_yes rfl rfl rfl) (y_move (v := .int _ _) rfl rfl) rfl ?_
              refine w_pure (want_yes rfl rfl rfl) (y_neq rfl rfl rfl rfl) rfl ?_
              refine w_pure (want_yes rfl rfl rfl) (y_move (v := .bool _) rfl rfl) rfl ?_
              refine w_split (fun h109 => ?_) (fun h109 => ?_)
              ·
               try simp only [Bool.not_eq_true', Bool.not_eq_false', decide_eq_true_eq, decide_eq_false_iff_not, Int.not_lt, Int.not_le] at h109
               refine w_pure (want_yes rfl rfl rfl) (y_move (v := .int _ _) rfl rfl) rfl ?_
               refine w_pure (want_yes rfl rfl rfl) (y_neq rfl rfl rfl rfl) rfl ?_
               refine w_pure (want_yes rfl rfl rfl) (y_pickT (v := .bool _) rfl rfl rfl rfl) rfl ?_
               refine w_pure want_none (y_pickF (v := .bool _) rfl rfl rfl rfl) rfl ?_
               refine w_nil ?_
               refine q_then (hK105 _ _ ?_)
               refine w_cond rfl rfl (fun h110 => ?_) (fun h110 => ?_)
               ·
                exfalso
                try simp only [Bool.not_eq_true', Bool.not_eq_false', decide_eq_true_eq, decide_eq_false_iff_not, Int.not_lt, Int.not_le] at h110
                omega
               ·
                try simp only [Bool.not_eq_true', Bool.not_eq_false', decide_eq_true_eq, decide_eq_false_iff_not, Int.not_lt, Int.not_le] at h110
                refine w_skip ?_
                refine q_then (hK103 _ _ ?_)
                refine w_seq (fun K112 hK111 => ?_)
                refine w_region ?_
                refine w_pure want_none (y_move (v := .int _ _) rfl rfl) rfl ?_
                refine w_pure want_none (y_move (v := .int _ _) rfl rfl) rfl ?_
                refine w_pure want_none (y_move (v := .int _ _) rfl rfl) rfl ?_
                refine w_pure want_none (y_sub rfl rfl rfl rfl (by omega) (by omega)) rfl ?_
                refine w_pure want_none (y_max2 rfl rfl rfl rfl) rfl ?_
                refine w_pure want_none (y_eql rfl rfl rfl rfl) rfl ?_
                refine w_pure want_none (y_move (v := .bool _) rfl rfl) rfl ?_
                refine w_split (fun h113 => ?_) (fun h113 => ?_)
                ·
                 try simp only [Bool.not_eq_true', Bool.not_eq_false', decide_eq_true_eq, decide_eq_false_iff_not, Int.not_lt, Int.not_le] at h113
                 refine w_call (want_yes rfl rfl rfl) Try.call21 rfl rfl rfl rfl (c21 hs102) ?_
                 rintro _ w115 ⟨rfl, hs116⟩
                 refine w_pure want_none (y_pickT (v := .bool _) rfl rfl rfl rfl) rfl ?_
                 refine w_pure want_none (y_assign (v := .bool _) rfl rfl) rfl ?_
                 refine w_nil ?_
                 refine q_then (hK111 _ _ ?_)
                 refine w_ret ?_
                 refine q_ret (l := [.tmp 4]) (vs := [_]) rfl ⟨⟨rfl, show _ = (.bool _ : Value) from rfl⟩, trivial⟩ ?_
                 exact ⟨rfl, hs116.drop.drop.drop.tail.drop.tail⟩
                ·
                 exfalso
                 try simp only [Bool.not_eq_true', Bool.not_eq_false', decide_eq_true_eq, decide_eq_false_iff_not, Int.not_lt, Int.not_le] at h113
                 exact h113 heq
              ·
               try simp only [Bool.not_eq_true', Bool.not_eq_false', decide_eq_true_eq, decide_eq_false_iff_not, Int.not_lt, Int.not_le] at h109
               refine w_skipop rfl rfl rfl ?_
               refine w_skipop rfl rfl rfl ?_
               refine w_pure (want_yes rfl rfl rfl) (y_pickF (v := _) rfl rfl rfl rfl) rfl ?_
               refine w_pure want_none (y_pickF (v := .bool _) rfl rfl rfl rfl) rfl ?_
               refine w_nil ?_
               refine q_then (hK105 _ _ ?_)
               refine w_condF rfl rfl ?_
               refine w_skip ?_
               refine q_then (hK103 _ _ ?_)
               refine w_seq (fun K118 hK117 => ?_)
               refine w_region ?_
               refine w_pure want_none (y_move (v := .int _ _) rfl rfl) rfl ?_
               refine w_pure want_none (y_move (v := .int _ _) rfl rfl) rfl ?_
               refine w_pure want_none (y_move (v := .int _ _) rfl rfl) rfl ?_
               refine w_pure want_none (y_sub rfl rfl rfl rfl (by omega) (by omega)) rfl ?_
               refine w_pure want_none (y_max2 rfl rfl rfl rfl) rfl ?_
               refine w_pure want_none (y_eql rfl rfl rfl rfl) rfl ?_
               refine w_pure want_none (y_move (v := .bool _) rfl rfl) rfl ?_
               refine w_split (fun h119 => ?_) (fun h119 => ?_)
               ·
                try simp only [Bool.not_eq_true', Bool.not_eq_false', decide_eq_true_eq, decide_eq_false_iff_not, Int.not_lt, Int.not_le] at h119
                refine w_call (want_yes rfl rfl rfl) Try.call21 rfl rfl rfl rfl (c21 hs102) ?_
                rintro _ w121 ⟨rfl, hs122⟩
                refine w_pure want_none (y_pickT (v := .bool _) rfl rfl rfl rfl) rfl ?_
                refine w_pure want_none (y_assign (v := .bool _) rfl rfl) rfl ?_
                refine w_nil ?_
                refine q_then (hK117 _ _ ?_)
                refine w_ret ?_
                refine q_ret (l := [.tmp 4]) (vs := [_]) rfl ⟨⟨rfl, show _ = (.bool _ : Value) from rfl⟩, trivial⟩ ?_
                exact ⟨rfl, hs122.drop.drop.drop.tail.drop.tail⟩
               ·
                exfalso
                try simp only [Bool.not_eq_true', Bool.not_eq_false', decide_eq_true_eq, decide_eq_false_iff_not, Int.not_lt, Int.not_le] at h119
                exact h119 heq
            ·
             try simp only [Bool.not_eq_true', Bool.not_eq_false', decide_eq_true_eq, decide_eq_false_iff_not, Int.not_lt, Int.not_le] at h107
             refine w_skipop rfl rfl rfl ?_
             refine w_skipop rfl rfl rfl ?_
             refine w_pure want_none (y_pickF (v := _) rfl rfl rfl rfl) rfl ?_
             refine w_pure want_none (y_move (v := .bool _) rfl rfl) rfl ?_
             refine w_pure (want_yes rfl rfl rfl) (y_move (v := .int _ _) rfl rfl) rfl ?_
             refine w_pure (want_yes rfl rfl rfl) (y_neq rfl rfl rfl rfl) rfl ?_
             refine w_pure (want_yes rfl rfl rfl) (y_move (v := .bool _) rfl rfl) rfl ?_
             refine w_split (fun h123 => ?_) (fun h123 => ?_)
             ·
              try simp only [Bool.not_eq_true', Bool.not_eq_false', decide_eq_true_eq, decide_eq_false_iff_not, Int.not_lt, Int.not_le] at h123
              refine w_pure (want_yes rfl rfl rfl) (y_move (v := .int _ _) rfl rfl) rfl ?_
              refine w_pure (want_yes rfl rfl rfl) (y_neq rfl rfl rfl rfl) rfl ?_
              refine w_pure (want_yes rfl rfl rfl) (y_pickT (v := .bool _) rfl rfl rfl rfl) rfl ?_
              refine w_pure want_none (y_pickF (v := .bool _) rfl rfl rfl rfl) rfl ?_
              refine w_nil ?_
              refine q_then (hK105 _ _ ?_)
              refine w_cond rfl rfl (fun h124 => ?_) (fun h124 => ?_)
              ·
               exfalso
               try simp only [Bool.not_eq_true', Bool.not_eq_false', decide_eq_true_eq, decide_eq_false_iff_not, Int.not_lt, Int.not_le] at h124
               omega
              ·
               try simp only [Bool.not_eq_true', Bool.not_eq_false', decide_eq_true_eq, decide_eq_false_iff_not, Int.not_lt, Int.not_le] at h124
               refine w_skip ?_
               refine q_then (hK103 _ _ ?_)
               refine w_seq (fun K126 hK125 => ?_)
               refine w_region ?_
               refine w_pure want_none (y_move (v := .int _ _) rfl rfl) rfl ?_
               refine w_pure want_none (y_move (v := .int _ _) rfl rfl) rfl ?_
               refine w_pure want_none (y_move (v := .int _ _) rfl rfl) rfl ?_
               refine w_pure want_none (y_sub rfl rfl rfl rfl (by omega) (by omega)) rfl ?_
               refine w_pure want_none (y_max2 rfl rfl rfl rfl) rfl ?_
               refine w_pure want_none (y_eql rfl rfl rfl rfl) rfl ?_
               refine w_pure want_none (y_move (v := .bool _) rfl rfl) rfl ?_
               refine w_split (fun h127 => ?_) (fun h127 => ?_)
               ·
                try simp only [Bool.not_eq_true', Bool.not_eq_false', decide_eq_true_eq, decide_eq_false_iff_not, Int.not_lt, Int.not_le] at h127
                refine w_call (want_yes rfl rfl rfl) Try.call21 rfl rfl rfl rfl (c21 hs102) ?_
                rintro _ w129 ⟨rfl, hs130⟩
                refine w_pure want_none (y_pickT (v := .bool _) rfl rfl rfl rfl) rfl ?_
                refine w_pure want_none (y_assign (v := .bool _) rfl rfl) rfl ?_
                refine w_nil ?_
                refine q_then (hK125 _ _ ?_)
                refine w_ret ?_
                refine q_ret (l := [.tmp 4]) (vs := [_]) rfl ⟨⟨rfl, show _ = (.bool _ : Value) from rfl⟩, trivial⟩ ?_
                exact ⟨rfl, hs130.drop.drop.drop.tail.drop.tail⟩
               ·
                exfalso
                try simp only [Bool.not_eq_true', Bool.not_eq_false', decide_eq_true_eq, decide_eq_false_iff_not, Int.not_lt, Int.not_le] at h127
                exact h127 heq
             ·
              try simp only [Bool.not_eq_true', Bool.not_eq_false', decide_eq_true_eq, decide_eq_false_iff_not, Int.not_lt, Int.not_le] at h123
              refine w_skipop rfl rfl rfl ?_
              refine w_skipop rfl rfl rfl ?_
              refine w_pure (want_yes rfl rfl rfl) (y_pickF (v := _) rfl rfl rfl rfl) rfl ?_
              refine w_pure want_none (y_pickF (v := .bool _) rfl rfl rfl rfl) rfl ?_
              refine w_nil ?_
              refine q_then (hK105 _ _ ?_)
              refine w_condF rfl rfl ?_
              refine w_skip ?_
              refine q_then (hK103 _ _ ?_)
              refine w_seq (fun K132 hK131 => ?_)
              refine w_region ?_
              refine w_pure want_none (y_move (v := .int _ _) rfl rfl) rfl ?_
              refine w_pure want_none (y_move (v := .int _ _) rfl rfl) rfl ?_
              refine w_pure want_none (y_move (v := .int _ _) rfl rfl) rfl ?_
              refine w_pure want_none (y_sub rfl rfl rfl rfl (by omega) (by omega)) rfl ?_
              refine w_pure want_none (y_max2 rfl rfl rfl rfl) rfl ?_
              refine w_pure want_none (y_eql rfl rfl rfl rfl) rfl ?_
              refine w_pure want_none (y_move (v := .bool _) rfl rfl) rfl ?_
              refine w_split (fun h133 => ?_) (fun h133 => ?_)
              ·
               try simp only [Bool.not_eq_true', Bool.not_eq_false', decide_eq_true_eq, decide_eq_false_iff_not, Int.not_lt, Int.not_le] at h133
               refine w_call (want_yes rfl rfl rfl) Try.call21 rfl rfl rfl rfl (c21 hs102) ?_
               rintro _ w135 ⟨rfl, hs136⟩
               refine w_pure want_none (y_pickT (v := .bool _) rfl rfl rfl rfl) rfl ?_
               refine w_pure want_none (y_assign (v := .bool _) rfl rfl) rfl ?_
               refine w_nil ?_
               refine q_then (hK131 _ _ ?_)
               refine w_ret ?_
               refine q_ret (l := [.tmp 4]) (vs := [_]) rfl ⟨⟨rfl, show _ = (.bool _ : Value) from rfl⟩, trivial⟩ ?_
               exact ⟨rfl, hs136.drop.drop.drop.tail.drop.tail⟩
              ·
               exfalso
               try simp only [Bool.not_eq_true', Bool.not_eq_false', decide_eq_true_eq, decide_eq_false_iff_not, Int.not_lt, Int.not_le] at h133
               exact h133 heq
         ·
          try simp only [Bool.not_eq_true', Bool.not_eq_false', decide_eq_true_eq, decide_eq_false_iff_not, Int.not_lt, Int.not_le] at h73
          refine w_skipop rfl rfl rfl ?_
          refine w_skipop rfl rfl rfl ?_
          refine w_pure (want_yes rfl rfl rfl) (y_pickF (v := _) rfl rfl rfl rfl) rfl ?_
          refine w_pure want_none (y_pickF (v := .bool _) rfl rfl rfl rfl) rfl ?_
          refine w_nil ?_
          refine q_then (hK66 _ _ ?_)
          refine w_condF rfl rfl ?_
          refine w_skip ?_
          refine q_then (hK64 _ _ ?_)
          refine w_seq (fun K138 hK137 => ?_)
          refine w_seq (fun K140 hK139 => ?_)
          refine w_region ?_
          refine w_pure want_none (y_loadN (vs := [_, _, _]) Try.isAgg26 Try.sizeOf26 hs63 rfl rfl hb10) rfl ?_
          refine w_call want_none Try.call35 rfl rfl rfl rfl (c35 (lateM m q) _ hm2.cons hs63) ?_
          rintro _ w142 ⟨rfl, hs143⟩
          refine w_pure want_none (y_not rfl rfl) rfl ?_
          refine w_nil ?_
          refine q_then (hK139 _ _ ?_)
          refine w_cond rfl rfl (fun h144 => ?_) (fun h144 => ?_)
          ·
           try simp only [Bool.not_eq_true', Bool.not_eq_false', decide_eq_true_eq, decide_eq_false_iff_not, Int.not_lt, Int.not_le] at h144
           refine w_seq (fun K146 hK145 => ?_)
           refine w_region ?_
           refine w_call want_none Try.call21 rfl rfl rfl rfl (c21 hs143) ?_
           rintro _ w148 ⟨rfl, hs149⟩
           refine w_pure want_none (y_assign (v := .bool _) rfl rfl) rfl ?_
           refine w_nil ?_
           refine q_then (hK145 _ _ ?_)
           refine w_ret ?_
           refine q_then_ret ?_
           refine q_ret (l := [.tmp 4]) (vs := [_]) rfl ⟨⟨rfl, show _ = (.bool _ : Value) from rfl⟩, trivial⟩ ?_
           exact ⟨rfl, hs149.tail.drop.tail⟩
          ·
           try simp only [Bool.not_eq_true', Bool.not_eq_false', decide_eq_true_eq, decide_eq_false_iff_not, Int.not_lt, Int.not_le] at h144
           refine w_skip ?_
           refine q_then (hK137 _ _ ?_)
           refine w_seq (fun K151 hK150 => ?_)
           have hcl : (check (lateM m q)).2.2 = 0 := by first | assumption | (refine Decidable.byContradiction fun h0 => ?_; simp_all)
           have hpf := hF.pf
           have hps := hF.ps hcl
           have heq := hF.eq hcl
           have hb1 := hF.b1
           have hb2 := hF.b2 hcl
           rw [show allL' m = (othersTo [] m.shops.length) from rfl] at hpf hps heq hb1 hb2
           refine w_region ?_
           refine w_pure want_none (y_loadN (vs := [_, _, _]) Try.isAgg26 Try.sizeOf26 hs143.tail.drop rfl rfl hbx) rfl ?_
           refine w_call want_none Try.call48 rfl rfl rfl rfl (c48 m _ hm.cons.app.cons hok  hs143) ?_
           rintro _ w153 ⟨AB, a_AB, c_AB, rfl, hs_AB, hs154⟩
           replace hs154 := (show St _ _ (AB ++ (_ :: BS ++ (_ :: F))) from hs154)
           refine w_pure want_none (y_assign (v := .slice _ _ _) rfl rfl) rfl ?_
           refine w_nil ?_
           refine q_then (hK150 _ _ ?_)
           refine w_seq (fun K156 hK155 => ?_)
           refine w_region ?_
           refine w_pure want_none (y_loadN (vs := [_, _, _]) Try.isAgg26 Try.sizeOf26 hs154.drop.tail.drop rfl rfl hbx) rfl ?_
           refine w_pure want_none (y_move (v := .slice _ _ _) rfl rfl) rfl ?_
           refine w_call want_none Try.call24 rfl rfl rfl rfl (c24 m _ hm.cons.app.cons.app _ _ (othersTo [] m.shops.length) (by omega) hs_AB.top hs154) ?_
           rintro _ w158 ⟨B1, a1, c1, rfl, hq1x, hs159⟩
           replace hs159 := (show St _ _ (B1 ++ (AB ++ (_ :: BS ++ (_ :: F)))) from hs159)
           refine w_pure want_none (y_move (v := .tuple _) rfl rfl) rfl ?_
           refine w_pure want_none (y_extract (v := .slice _ _ _) rfl rfl rfl) rfl ?_
           refine w_pure want_none (y_extract (v := .int _ _) rfl rfl rfl) rfl ?_
           refine w_pure want_none (y_extract (v := .int _ _) rfl rfl rfl) rfl ?_
           refine w_pure want_none (y_assign (v := .slice _ _ _) rfl rfl) rfl ?_
           refine w_pure want_none (y_assign (v := .int _ _) rfl rfl) rfl ?_
           refine w_pure want_none (y_assign (v := .int _ _) rfl rfl) rfl ?_
           refine w_nil ?_
           refine q_then (hK155 _ _ ?_)
           refine w_seq (fun K161 hK160 => ?_)
           refine w_region ?_
           refine w_pure want_none (y_loadN (vs := [_, _, _]) Try.isAgg26 Try.sizeOf26 hs159.drop.drop rfl rfl hb10) rfl ?_
           refine w_pure want_none (y_move (v := .slice _ _ _) rfl rfl) rfl ?_
           refine w_call want_none Try.call24 rfl rfl rfl rfl (c24 (lateM m q) _ hm2.cons.app.app _ _ (othersTo [] m.shops.length) (by omega) hs_AB.top.app hs159) ?_
           rintro _ w163 ⟨B2, a2, c2, rfl, hq2x, hs164⟩
           replace hs164 := (show St _ _ (B2 ++ (B1 ++ (AB ++ (_ :: BS ++ (_ :: F))))) from hs164)
           refine w_pure want_none (y_move (v := .tuple _) rfl rfl) rfl ?_
           refine w_pure want_none (y_extract (v := .slice _ _ _) rfl rfl rfl) rfl ?_
           refine w_pure want_none (y_extract (v := .int _ _) rfl rfl rfl) rfl ?_
           refine w_pure want_none (y_extract (v := .int _ _) rfl rfl rfl) rfl ?_
           refine w_pure want_none (y_assign (v := .slice _ _ _) rfl rfl) rfl ?_
           refine w_pure want_none (y_assign (v := .int _ _) rfl rfl) rfl ?_
           refine w_pure want_none (y_assign (v := .int _ _) rfl rfl) rfl ?_
           refine w_nil ?_
           refine q_then (hK160 _ _ ?_)
           refine w_seq (fun K166 hK165 => ?_)
           refine w_seq (fun K168 hK167 => ?_)
           refine w_region ?_
           refine w_pure want_none (y_move (v := .int _ _) rfl rfl) rfl ?_
           refine w_pure want_none (y_neq rfl rfl rfl rfl) rfl ?_
           refine w_pure want_none (y_move (v := .bool _) rfl rfl) rfl ?_
           refine w_split (fun h169 => ?_) (fun h169 => ?_)
           ·
            try simp only [Bool.not_eq_true', Bool.not_eq_false', decide_eq_true_eq, decide_eq_false_iff_not, Int.not_lt, Int.not_le] at h169
            refine w_pure (want_yes rfl rfl rfl) (y_move (v := .int _ _) rfl rfl) rfl ?_
            refine w_pure (want_yes rfl rfl rfl) (y_neq rfl rfl rfl rfl) rfl ?_
            refine w_pure want_none (y_pickT (v := .bool _) rfl rfl rfl rfl) rfl ?_
            refine w_pure want_none (y_move (v := .bool _) rfl rfl) rfl ?_
            refine w_split (fun h170 => ?_) (fun h170 => ?_)
            ·
             exfalso
             try simp only [Bool.not_eq_true', Bool.not_eq_false', decide_eq_true_eq, decide_eq_false_iff_not, Int.not_lt, Int.not_le] at h170
             omega
            ·
             try simp only [Bool.not_eq_true', Bool.not_eq_false', decide_eq_true_eq, decide_eq_false_iff_not, Int.not_lt, Int.not_le] at h170
             refine w_pure (want_yes rfl rfl rfl) (y_move (v := .int _ _) rfl rfl) rfl ?_
             refine w_pure (want_yes rfl rfl rfl) (y_neq rfl rfl rfl rfl) rfl ?_
             refine w_pure (want_yes rfl rfl rfl) (y_move (v := .bool _) rfl rfl) rfl ?_
             refine w_split (fun h171 => ?_) (fun h171 => ?_)
             ·
              try simp only [Bool.not_eq_true', Bool.not_eq_false', decide_eq_true_eq, decide_eq_false_iff_not, Int.not_lt, Int.not_le] at h171
              refine w_pure (want_yes rfl rfl rfl) (y_move (v := .int _ _) rfl rfl) rfl ?_
              refine w_pure (want_yes rfl rfl rfl) (y_neq rfl rfl rfl rfl) rfl ?_
              refine w_pure (want_yes rfl rfl rfl) (y_pickT (v := .bool _) rfl rfl rfl rfl) rfl ?_
              refine w_pure want_none (y_pickF (v := .bool _) rfl rfl rfl rfl) rfl ?_
              refine w_nil ?_
              refine q_then (hK167 _ _ ?_)
              refine w_cond rfl rfl (fun h172 => ?_) (fun h172 => ?_)
              ·
               exfalso
               try simp only [Bool.not_eq_true', Bool.not_eq_false', decide_eq_true_eq, decide_eq_false_iff_not, Int.not_lt, Int.not_le] at h172
               omega
              ·
               try simp only [Bool.not_eq_true', Bool.not_eq_false', decide_eq_true_eq, decide_eq_false_iff_not, Int.not_lt, Int.not_le] at h172
               refine w_skip ?_
               refine q_then (hK165 _ _ ?_)
               refine w_seq (fun K174 hK173 => ?_)
               refine w_region ?_
               refine w_pure want_none (y_move (v := .int _ _) rfl rfl) rfl ?_
               refine w_pure want_none (y_move (v := .int _ _) rfl rfl) rfl ?_
               refine w_pure want_none (y_move (v := .int _ _) rfl rfl) rfl ?_
               refine w_pure want_none (y_sub rfl rfl rfl rfl (by omega) (by omega)) rfl ?_
               refine w_pure want_none (y_max2 rfl rfl rfl rfl) rfl ?_
               refine w_pure want_none (y_eql rfl rfl rfl rfl) rfl ?_
               refine w_pure want_none (y_move (v := .bool _) rfl rfl) rfl ?_
               refine w_split (fun h175 => ?_) (fun h175 => ?_)
               ·
                try simp only [Bool.not_eq_true', Bool.not_eq_false', decide_eq_true_eq, decide_eq_false_iff_not, Int.not_lt, Int.not_le] at h175
                refine w_call (want_yes rfl rfl rfl) Try.call21 rfl rfl rfl rfl (c21 hs164) ?_
                rintro _ w177 ⟨rfl, hs178⟩
                refine w_pure want_none (y_pickT (v := .bool _) rfl rfl rfl rfl) rfl ?_
                refine w_pure want_none (y_assign (v := .bool _) rfl rfl) rfl ?_
                refine w_nil ?_
                refine q_then (hK173 _ _ ?_)
                refine w_ret ?_
                refine q_ret (l := [.tmp 4]) (vs := [_]) rfl ⟨⟨rfl, show _ = (.bool _ : Value) from rfl⟩, trivial⟩ ?_
                exact ⟨rfl, hs178.drop.drop.drop.tail.drop.tail⟩
               ·
                exfalso
                try simp only [Bool.not_eq_true', Bool.not_eq_false', decide_eq_true_eq, decide_eq_false_iff_not, Int.not_lt, Int.not_le] at h175
                exact h175 heq
             ·
              try simp only [Bool.not_eq_true', Bool.not_eq_false', decide_eq_true_eq, decide_eq_false_iff_not, Int.not_lt, Int.not_le] at h171
              refine w_skipop rfl rfl rfl ?_
              refine w_skipop rfl rfl rfl ?_
              refine w_pure (want_yes rfl rfl rfl) (y_pickF (v := _) rfl rfl rfl rfl) rfl ?_
              refine w_pure want_none (y_pickF (v := .bool _) rfl rfl rfl rfl) rfl ?_
              refine w_nil ?_
              refine q_then (hK167 _ _ ?_)
              refine w_condF rfl rfl ?_
              refine w_skip ?_
              refine q_then (hK165 _ _ ?_)
              refine w_seq (fun K180 hK179 => ?_)
              refine w_region ?_
              refine w_pure want_none (y_move (v := .int _ _) rfl rfl) rfl ?_
              refine w_pure want_none (y_move (v := .int _ _) rfl rfl) rfl ?_
              refine w_pure want_none (y_move (v := .int _ _) rfl rfl) rfl ?_
              refine w_pure want_none (y_sub rfl rfl rfl rfl (by omega) (by omega)) rfl ?_
              refine w_pure want_none (y_max2 rfl rfl rfl rfl) rfl ?_
              refine w_pure want_none (y_eql rfl rfl rfl rfl) rfl ?_
              refine w_pure want_none (y_move (v := .bool _) rfl rfl) rfl ?_
              refine w_split (fun h181 => ?_) (fun h181 => ?_)
              ·
               try simp only [Bool.not_eq_true', Bool.not_eq_false', decide_eq_true_eq, decide_eq_false_iff_not, Int.not_lt, Int.not_le] at h181
               refine w_call (want_yes rfl rfl rfl) Try.call21 rfl rfl rfl rfl (c21 hs164) ?_
               rintro _ w183 ⟨rfl, hs184⟩
               refine w_pure want_none (y_pickT (v := .bool _) rfl rfl rfl rfl) rfl ?_
               refine w_pure want_none (y_assign (v := .bool _) rfl rfl) rfl ?_
               refine w_nil ?_
               refine q_then (hK179 _ _ ?_)
               refine w_ret ?_
               refine q_ret (l := [.tmp 4]) (vs := [_]) rfl ⟨⟨rfl, show _ = (.bool _ : Value) from rfl⟩, trivial⟩ ?_
               exact ⟨rfl, hs184.drop.drop.drop.tail.drop.tail⟩
              ·
               exfalso
               try simp only [Bool.not_eq_true', Bool.not_eq_false', decide_eq_true_eq, decide_eq_false_iff_not, Int.not_lt, Int.not_le] at h181
               exact h181 heq
           ·
            try simp only [Bool.not_eq_true', Bool.not_eq_false', decide_eq_true_eq, decide_eq_false_iff_not, Int.not_lt, Int.not_le] at h169
            refine w_skipop rfl rfl rfl ?_
            refine w_skipop rfl rfl rfl ?_
            refine w_pure want_none (y_pickF (v := _) rfl rfl rfl rfl) rfl ?_
            refine w_pure want_none (y_move (v := .bool _) rfl rfl) rfl ?_
            refine w_pure (want_yes rfl rfl rfl) (y_move (v := .int _ _) rfl rfl) rfl ?_
            refine w_pure (want_yes rfl rfl rfl) (y_neq rfl rfl rfl rfl) rfl ?_
            refine w_pure (want_yes rfl rfl rfl) (y_move (v := .bool _) rfl rfl) rfl ?_
            refine w_split (fun h185 => ?_) (fun h185 => ?_)
            ·
             try simp only [Bool.not_eq_true', Bool.not_eq_false', decide_eq_true_eq, decide_eq_false_iff_not, Int.not_lt, Int.not_le] at h185
             refine w_pure (want_yes rfl rfl rfl) (y_move (v := .int _ _) rfl rfl) rfl ?_
             refine w_pure (want_yes rfl rfl rfl) (y_neq rfl rfl rfl rfl) rfl ?_
             refine w_pure (want_yes rfl rfl rfl) (y_pickT (v := .bool _) rfl rfl rfl rfl) rfl ?_
             refine w_pure want_none (y_pickF (v := .bool _) rfl rfl rfl rfl) rfl ?_
             refine w_nil ?_
             refine q_then (hK167 _ _ ?_)
             refine w_cond rfl rfl (fun h186 => ?_) (fun h186 => ?_)
             ·
              exfalso
              try simp only [Bool.not_eq_true', Bool.not_eq_false', decide_eq_true_eq, decide_eq_false_iff_not, Int.not_lt, Int.not_le] at h186
              omega
             ·
              try simp only [Bool.not_eq_true', Bool.not_eq_false', decide_eq_true_eq, decide_eq_false_iff_not, Int.not_lt, Int.not_le] at h186
              refine w_skip ?_
              refine q_then (hK165 _ _ ?_)
              refine w_seq (fun K188 hK187 => ?_)
              refine w_region ?_
              refine w_pure want_none (y_move (v := .int _ _) rfl rfl) rfl ?_
              refine w_pure want_none (y_move (v := .int _ _) rfl rfl) rfl ?_
              refine w_pure want_none (y_move (v := .int _ _) rfl rfl) rfl ?_
              refine w_pure want_none (y_sub rfl rfl rfl rfl (by omega) (by omega)) rfl ?_
              refine w_pure want_none (y_max2 rfl rfl rfl rfl) rfl ?_
              refine w_pure want_none (y_eql rfl rfl rfl rfl) rfl ?_
              refine w_pure want_none (y_move (v := .bool _) rfl rfl) rfl ?_
              refine w_split (fun h189 => ?_) (fun h189 => ?_)
              ·
               try simp only [Bool.not_eq_true', Bool.not_eq_false', decide_eq_true_eq, decide_eq_false_iff_not, Int.not_lt, Int.not_le] at h189
               refine w_call (want_yes rfl rfl rfl) Try.call21 rfl rfl rfl rfl (c21 hs164) ?_
               rintro _ w191 ⟨rfl, hs192⟩
               refine w_pure want_none (y_pickT (v := .bool _) rfl rfl rfl rfl) rfl ?_
               refine w_pure want_none (y_assign (v := .bool _) rfl rfl) rfl ?_
               refine w_nil ?_
               refine q_then (hK187 _ _ ?_)
               refine w_ret ?_
               refine q_ret (l := [.tmp 4]) (vs := [_]) rfl ⟨⟨rfl, show _ = (.bool _ : Value) from rfl⟩, trivial⟩ ?_
               exact ⟨rfl, hs192.drop.drop.drop.tail.drop.tail⟩
              ·
               exfalso
               try simp only [Bool.not_eq_true', Bool.not_eq_false', decide_eq_true_eq, decide_eq_false_iff_not, Int.not_lt, Int.not_le] at h189
               exact h189 heq
            ·
             try simp only [Bool.not_eq_true', Bool.not_eq_false', decide_eq_true_eq, decide_eq_false_iff_not, Int.not_lt, Int.not_le] at h185
             refine w_skipop rfl rfl rfl ?_
             refine w_skipop rfl rfl rfl ?_
             refine w_pure (want_yes rfl rfl rfl) (y_pickF (v := _) rfl rfl rfl rfl) rfl ?_
             refine w_pure want_none (y_pickF (v := .bool _) rfl rfl rfl rfl) rfl ?_
             refine w_nil ?_
             refine q_then (hK167 _ _ ?_)
             refine w_condF rfl rfl ?_
             refine w_skip ?_
             refine q_then (hK165 _ _ ?_)
             refine w_seq (fun K194 hK193 => ?_)
             refine w_region ?_
             refine w_pure want_none (y_move (v := .int _ _) rfl rfl) rfl ?_
             refine w_pure want_none (y_move (v := .int _ _) rfl rfl) rfl ?_
             refine w_pure want_none (y_move (v := .int _ _) rfl rfl) rfl ?_
             refine w_pure want_none (y_sub rfl rfl rfl rfl (by omega) (by omega)) rfl ?_
             refine w_pure want_none (y_max2 rfl rfl rfl rfl) rfl ?_
             refine w_pure want_none (y_eql rfl rfl rfl rfl) rfl ?_
             refine w_pure want_none (y_move (v := .bool _) rfl rfl) rfl ?_
             refine w_split (fun h195 => ?_) (fun h195 => ?_)
             ·
              try simp only [Bool.not_eq_true', Bool.not_eq_false', decide_eq_true_eq, decide_eq_false_iff_not, Int.not_lt, Int.not_le] at h195
              refine w_call (want_yes rfl rfl rfl) Try.call21 rfl rfl rfl rfl (c21 hs164) ?_
              rintro _ w197 ⟨rfl, hs198⟩
              refine w_pure want_none (y_pickT (v := .bool _) rfl rfl rfl rfl) rfl ?_
              refine w_pure want_none (y_assign (v := .bool _) rfl rfl) rfl ?_
              refine w_nil ?_
              refine q_then (hK193 _ _ ?_)
              refine w_ret ?_
              refine q_ret (l := [.tmp 4]) (vs := [_]) rfl ⟨⟨rfl, show _ = (.bool _ : Value) from rfl⟩, trivial⟩ ?_
              exact ⟨rfl, hs198.drop.drop.drop.tail.drop.tail⟩
             ·
              exfalso
              try simp only [Bool.not_eq_true', Bool.not_eq_false', decide_eq_true_eq, decide_eq_false_iff_not, Int.not_lt, Int.not_le] at h195
              exact h195 heq
       ·
        try simp only [Bool.not_eq_true', Bool.not_eq_false', decide_eq_true_eq, decide_eq_false_iff_not, Int.not_lt, Int.not_le] at h71
        refine w_skipop rfl rfl rfl ?_
        refine w_skipop rfl rfl rfl ?_
        refine w_pure (want_yes rfl rfl rfl) (y_pickF (v := _) rfl rfl rfl rfl) rfl ?_
        refine w_pure want_none (y_pickF (v := .bool _) rfl rfl rfl rfl) rfl ?_
        refine w_pure want_none (y_move (v := .bool _) rfl rfl) rfl ?_
        refine w_pure (want_yes rfl rfl rfl) (y_move (v := .bool _) rfl rfl) rfl ?_
        refine w_pure (want_yes rfl rfl rfl) (y_not rfl rfl) rfl ?_
        refine w_pure (want_yes rfl rfl rfl) (y_move (v := .bool _) rfl rfl) rfl ?_
        refine w_split (fun h199 => ?_) (fun h199 => ?_)
        ·
         try simp only [Bool.not_eq_true', Bool.not_eq_false', decide_eq_true_eq, decide_eq_false_iff_not, Int.not_lt, Int.not_le] at h199
         refine w_pure (want_yes rfl rfl rfl) (y_move (v := .int _ _) rfl rfl) rfl ?_
         refine w_pure (want_yes rfl rfl rfl) (y_neq rfl rfl rfl rfl) rfl ?_
         refine w_pure (want_yes rfl rfl rfl) (y_pickT (v := .bool _) rfl rfl rfl rfl) rfl ?_
         refine w_pure want_none (y_pickF (v := .bool _) rfl rfl rfl rfl) rfl ?_
         refine w_nil ?_
         refine q_then (hK66 _ _ ?_)
         refine w_cond rfl rfl (fun h200 => ?_) (fun h200 => ?_)
         ·
          exfalso
          try simp only [Bool.not_eq_true', Bool.not_eq_false', decide_eq_true_eq, decide_eq_false_iff_not, Int.not_lt, Int.not_le] at h200
          exact h200 (hF.stay (by assumption))
         ·
          try simp only [Bool.not_eq_true', Bool.not_eq_false', decide_eq_true_eq, decide_eq_false_iff_not, Int.not_lt, Int.not_le] at h200
          refine w_skip ?_
          refine q_then (hK64 _ _ ?_)
          refine w_seq (fun K202 hK201 => ?_)
          refine w_seq (fun K204 hK203 => ?_)
          refine w_region ?_
          refine w_pure want_none (y_loadN (vs := [_, _, _]) Try.isAgg26 Try.sizeOf26 hs63 rfl rfl hb10) rfl ?_
          refine w_call want_none Try.call35 rfl rfl rfl rfl (c35 (lateM m q) _ hm2.cons hs63) ?_
          rintro _ w206 ⟨rfl, hs207⟩
          refine w_pure want_none (y_not rfl rfl) rfl ?_
          refine w_nil ?_
          refine q_then (hK203 _ _ ?_)
          refine w_cond rfl rfl (fun h208 => ?_) (fun h208 => ?_)
          ·
           try simp only [Bool.not_eq_true', Bool.not_eq_false', decide_eq_true_eq, decide_eq_false_iff_not, Int.not_lt, Int.not_le] at h208
           refine w_seq (fun K210 hK209 => ?_)
           refine w_region ?_
           refine w_call want_none Try.call21 rfl rfl rfl rfl (c21 hs207) ?_
           rintro _ w212 ⟨rfl, hs213⟩
           refine w_pure want_none (y_assign (v := .bool _) rfl rfl) rfl ?_
           refine w_nil ?_
           refine q_then (hK209 _ _ ?_)
           refine w_ret ?_
           refine q_then_ret ?_
           refine q_ret (l := [.tmp 4]) (vs := [_]) rfl ⟨⟨rfl, show _ = (.bool _ : Value) from rfl⟩, trivial⟩ ?_
           exact ⟨rfl, hs213.tail.drop.tail⟩
          ·
           try simp only [Bool.not_eq_true', Bool.not_eq_false', decide_eq_true_eq, decide_eq_false_iff_not, Int.not_lt, Int.not_le] at h208
           refine w_skip ?_
           refine q_then (hK201 _ _ ?_)
           refine w_seq (fun K215 hK214 => ?_)
           have hcl : (check (lateM m q)).2.2 = 0 := by first | assumption | (refine Decidable.byContradiction fun h0 => ?_; simp_all)
           have hpf := hF.pf
           have hps := hF.ps hcl
           have heq := hF.eq hcl
           have hb1 := hF.b1
           have hb2 := hF.b2 hcl
           rw [show allL' m = (othersTo [] m.shops.length) from rfl] at hpf hps heq hb1 hb2
           refine w_region ?_
           refine w_pure want_none (y_loadN (vs := [_, _, _]) Try.isAgg26 Try.sizeOf26 hs207.tail.drop rfl rfl hbx) rfl ?_
           refine w_call want_none Try.call48 rfl rfl rfl rfl (c48 m _ hm.cons.app.cons hok  hs207) ?_
           rintro _ w217 ⟨AB, a_AB, c_AB, rfl, hs_AB, hs218⟩
           replace hs218 := (show St _ _ (AB ++ (_ :: BS ++ (_ :: F))) from hs218)
           refine w_pure want_none (y_assign (v := .slice _ _ _) rfl rfl) rfl ?_
           refine w_nil ?_
           refine q_then (hK214 _ _ ?_)
           refine w_seq (fun K220 hK219 => ?_)
           refine w_region ?_
           refine w_pure want_none (y_loadN (vs := [_, _, _]) Try.isAgg26 Try.sizeOf26 hs218.drop.tail.drop rfl rfl hbx) rfl ?_
           refine w_pure want_none (y_move (v := .slice _ _ _) rfl rfl) rfl ?_
           refine w_call want_none Try.call24 rfl rfl rfl rfl (c24 m _ hm.cons.app.cons.app _ _ (othersTo [] m.shops.length) (by omega) hs_AB.top hs218) ?_
           rintro _ w222 ⟨B1, a1, c1, rfl, hq1x, hs223⟩
           replace hs223 := (show St _ _ (B1 ++ (AB ++ (_ :: BS ++ (_ :: F)))) from hs223)
           refine w_pure want_none (y_move (v := .tuple _) rfl rfl) rfl ?_
           refine w_pure want_none (y_extract (v := .slice _ _ _) rfl rfl rfl) rfl ?_
           refine w_pure want_none (y_extract (v := .int _ _) rfl rfl rfl) rfl ?_
           refine w_pure want_none (y_extract (v := .int _ _) rfl rfl rfl) rfl ?_
           refine w_pure want_none (y_assign (v := .slice _ _ _) rfl rfl) rfl ?_
           refine w_pure want_none (y_assign (v := .int _ _) rfl rfl) rfl ?_
           refine w_pure want_none (y_assign (v := .int _ _) rfl rfl) rfl ?_
           refine w_nil ?_
           refine q_then (hK219 _ _ ?_)
           refine w_seq (fun K225 hK224 => ?_)
           refine w_region ?_
           refine w_pure want_none (y_loadN (vs := [_, _, _]) Try.isAgg26 Try.sizeOf26 hs223.drop.drop rfl rfl hb10) rfl ?_
           refine w_pure want_none (y_move (v := .slice _ _ _) rfl rfl) rfl ?_
           refine w_call want_none Try.call24 rfl rfl rfl rfl (c24 (lateM m q) _ hm2.cons.app.app _ _ (othersTo [] m.shops.length) (by omega) hs_AB.top.app hs223) ?_
           rintro _ w227 ⟨B2, a2, c2, rfl, hq2x, hs228⟩
           replace hs228 := (show St _ _ (B2 ++ (B1 ++ (AB ++ (_ :: BS ++ (_ :: F))))) from hs228)
           refine w_pure want_none (y_move (v := .tuple _) rfl rfl) rfl ?_
           refine w_pure want_none (y_extract (v := .slice _ _ _) rfl rfl rfl) rfl ?_
           refine w_pure want_none (y_extract (v := .int _ _) rfl rfl rfl) rfl ?_
           refine w_pure want_none (y_extract (v := .int _ _) rfl rfl rfl) rfl ?_
           refine w_pure want_none (y_assign (v := .slice _ _ _) rfl rfl) rfl ?_
           refine w_pure want_none (y_assign (v := .int _ _) rfl rfl) rfl ?_
           refine w_pure want_none (y_assign (v := .int _ _) rfl rfl) rfl ?_
           refine w_nil ?_
           refine q_then (hK224 _ _ ?_)
           refine w_seq (fun K230 hK229 => ?_)
           refine w_seq (fun K232 hK231 => ?_)
           refine w_region ?_
           refine w_pure want_none (y_move (v := .int _ _) rfl rfl) rfl ?_
           refine w_pure want_none (y_neq rfl rfl rfl rfl) rfl ?_
           refine w_pure want_none (y_move (v := .bool _) rfl rfl) rfl ?_
           refine w_split (fun h233 => ?_) (fun h233 => ?_)
           ·
            try simp only [Bool.not_eq_true', Bool.not_eq_false', decide_eq_true_eq, decide_eq_false_iff_not, Int.not_lt, Int.not_le] at h233
            refine w_pure (want_yes rfl rfl rfl) (y_move (v := .int _ _) rfl rfl) rfl ?_
            refine w_pure (want_yes rfl rfl rfl) (y_neq rfl rfl rfl rfl) rfl ?_
            refine w_pure want_none (y_pickT (v := .bool _) rfl rfl rfl rfl) rfl ?_
            refine w_pure want_none (y_move (v := .bool _) rfl rfl) rfl ?_
            refine w_split (fun h234 => ?_) (fun h234 => ?_)
            ·
             exfalso
             try simp only [Bool.not_eq_true', Bool.not_eq_false', decide_eq_true_eq, decide_eq_false_iff_not, Int.not_lt, Int.not_le] at h234
             omega
            ·
             try simp only [Bool.not_eq_true', Bool.not_eq_false', decide_eq_true_eq, decide_eq_false_iff_not, Int.not_lt, Int.not_le] at h234
             refine w_pure (want_yes rfl rfl rfl) (y_move (v := .int _ _) rfl rfl) rfl ?_
             refine w_pure (want_yes rfl rfl rfl) (y_neq rfl rfl rfl rfl) rfl ?_
             refine w_pure (want_yes rfl rfl rfl) (y_move (v := .bool _) rfl rfl) rfl ?_
             refine w_split (fun h235 => ?_) (fun h235 => ?_)
             ·
              try simp only [Bool.not_eq_true', Bool.not_eq_false', decide_eq_true_eq, decide_eq_false_iff_not, Int.not_lt, Int.not_le] at h235
              refine w_pure (want_yes rfl rfl rfl) (y_move (v := .int _ _) rfl rfl) rfl ?_
              refine w_pure (want_yes rfl rfl rfl) (y_neq rfl rfl rfl rfl) rfl ?_
              refine w_pure (want_yes rfl rfl rfl) (y_pickT (v := .bool _) rfl rfl rfl rfl) rfl ?_
              refine w_pure want_none (y_pickF (v := .bool _) rfl rfl rfl rfl) rfl ?_
              refine w_nil ?_
              refine q_then (hK231 _ _ ?_)
              refine w_cond rfl rfl (fun h236 => ?_) (fun h236 => ?_)
              ·
               exfalso
               try simp only [Bool.not_eq_true', Bool.not_eq_false', decide_eq_true_eq, decide_eq_false_iff_not, Int.not_lt, Int.not_le] at h236
               omega
              ·
               try simp only [Bool.not_eq_true', Bool.not_eq_false', decide_eq_true_eq, decide_eq_false_iff_not, Int.not_lt, Int.not_le] at h236
               refine w_skip ?_
               refine q_then (hK229 _ _ ?_)
               refine w_seq (fun K238 hK237 => ?_)
               refine w_region ?_
               refine w_pure want_none (y_move (v := .int _ _) rfl rfl) rfl ?_
               refine w_pure want_none (y_move (v := .int _ _) rfl rfl) rfl ?_
               refine w_pure want_none (y_move (v := .int _ _) rfl rfl) rfl ?_
               refine w_pure want_none (y_sub rfl rfl rfl rfl (by omega) (by omega)) rfl ?_
               refine w_pure want_none (y_max2 rfl rfl rfl rfl) rfl ?_
               refine w_pure want_none (y_eql rfl rfl rfl rfl) rfl ?_
               refine w_pure want_none (y_move (v := .bool _) rfl rfl) rfl ?_
               refine w_split (fun h239 => ?_) (fun h239 => ?_)
               ·
                try simp only [Bool.not_eq_true', Bool.not_eq_false', decide_eq_true_eq, decide_eq_false_iff_not, Int.not_lt, Int.not_le] at h239
                refine w_call (want_yes rfl rfl rfl) Try.call21 rfl rfl rfl rfl (c21 hs228) ?_
                rintro _ w241 ⟨rfl, hs242⟩
                refine w_pure want_none (y_pickT (v := .bool _) rfl rfl rfl rfl) rfl ?_
                refine w_pure want_none (y_assign (v := .bool _) rfl rfl) rfl ?_
                refine w_nil ?_
                refine q_then (hK237 _ _ ?_)
                refine w_ret ?_
                refine q_ret (l := [.tmp 4]) (vs := [_]) rfl ⟨⟨rfl, show _ = (.bool _ : Value) from rfl⟩, trivial⟩ ?_
                exact ⟨rfl, hs242.drop.drop.drop.tail.drop.tail⟩
               ·
                exfalso
                try simp only [Bool.not_eq_true', Bool.not_eq_false', decide_eq_true_eq, decide_eq_false_iff_not, Int.not_lt, Int.not_le] at h239
                exact h239 heq
             ·
              try simp only [Bool.not_eq_true', Bool.not_eq_false', decide_eq_true_eq, decide_eq_false_iff_not, Int.not_lt, Int.not_le] at h235
              refine w_skipop rfl rfl rfl ?_
              refine w_skipop rfl rfl rfl ?_
              refine w_pure (want_yes rfl rfl rfl) (y_pickF (v := _) rfl rfl rfl rfl) rfl ?_
              refine w_pure want_none (y_pickF (v := .bool _) rfl rfl rfl rfl) rfl ?_
              refine w_nil ?_
              refine q_then (hK231 _ _ ?_)
              refine w_condF rfl rfl ?_
              refine w_skip ?_
              refine q_then (hK229 _ _ ?_)
              refine w_seq (fun K244 hK243 => ?_)
              refine w_region ?_
              refine w_pure want_none (y_move (v := .int _ _) rfl rfl) rfl ?_
              refine w_pure want_none (y_move (v := .int _ _) rfl rfl) rfl ?_
              refine w_pure want_none (y_move (v := .int _ _) rfl rfl) rfl ?_
              refine w_pure want_none (y_sub rfl rfl rfl rfl (by omega) (by omega)) rfl ?_
              refine w_pure want_none (y_max2 rfl rfl rfl rfl) rfl ?_
              refine w_pure want_none (y_eql rfl rfl rfl rfl) rfl ?_
              refine w_pure want_none (y_move (v := .bool _) rfl rfl) rfl ?_
              refine w_split (fun h245 => ?_) (fun h245 => ?_)
              ·
               try simp only [Bool.not_eq_true', Bool.not_eq_false', decide_eq_true_eq, decide_eq_false_iff_not, Int.not_lt, Int.not_le] at h245
               refine w_call (want_yes rfl rfl rfl) Try.call21 rfl rfl rfl rfl (c21 hs228) ?_
               rintro _ w247 ⟨rfl, hs248⟩
               refine w_pure want_none (y_pickT (v := .bool _) rfl rfl rfl rfl) rfl ?_
               refine w_pure want_none (y_assign (v := .bool _) rfl rfl) rfl ?_
               refine w_nil ?_
               refine q_then (hK243 _ _ ?_)
               refine w_ret ?_
               refine q_ret (l := [.tmp 4]) (vs := [_]) rfl ⟨⟨rfl, show _ = (.bool _ : Value) from rfl⟩, trivial⟩ ?_
               exact ⟨rfl, hs248.drop.drop.drop.tail.drop.tail⟩
              ·
               exfalso
               try simp only [Bool.not_eq_true', Bool.not_eq_false', decide_eq_true_eq, decide_eq_false_iff_not, Int.not_lt, Int.not_le] at h245
               exact h245 heq
           ·
            try simp only [Bool.not_eq_true', Bool.not_eq_false', decide_eq_true_eq, decide_eq_false_iff_not, Int.not_lt, Int.not_le] at h233
            refine w_skipop rfl rfl rfl ?_
            refine w_skipop rfl rfl rfl ?_
            refine w_pure want_none (y_pickF (v := _) rfl rfl rfl rfl) rfl ?_
            refine w_pure want_none (y_move (v := .bool _) rfl rfl) rfl ?_
            refine w_pure (want_yes rfl rfl rfl) (y_move (v := .int _ _) rfl rfl) rfl ?_
            refine w_pure (want_yes rfl rfl rfl) (y_neq rfl rfl rfl rfl) rfl ?_
            refine w_pure (want_yes rfl rfl rfl) (y_move (v := .bool _) rfl rfl) rfl ?_
            refine w_split (fun h249 => ?_) (fun h249 => ?_)
            ·
             try simp only [Bool.not_eq_true', Bool.not_eq_false', decide_eq_true_eq, decide_eq_false_iff_not, Int.not_lt, Int.not_le] at h249
             refine w_pure (want_yes rfl rfl rfl) (y_move (v := .int _ _) rfl rfl) rfl ?_
             refine w_pure (want_yes rfl rfl rfl) (y_neq rfl rfl rfl rfl) rfl ?_
             refine w_pure (want_yes rfl rfl rfl) (y_pickT (v := .bool _) rfl rfl rfl rfl) rfl ?_
             refine w_pure want_none (y_pickF (v := .bool _) rfl rfl rfl rfl) rfl ?_
             refine w_nil ?_
             refine q_then (hK231 _ _ ?_)
             refine w_cond rfl rfl (fun h250 => ?_) (fun h250 => ?_)
             ·
              exfalso
              try simp only [Bool.not_eq_true', Bool.not_eq_false', decide_eq_true_eq, decide_eq_false_iff_not, Int.not_lt, Int.not_le] at h250
              omega
             ·
              try simp only [Bool.not_eq_true', Bool.not_eq_false', decide_eq_true_eq, decide_eq_false_iff_not, Int.not_lt, Int.not_le] at h250
              refine w_skip ?_
              refine q_then (hK229 _ _ ?_)
              refine w_seq (fun K252 hK251 => ?_)
              refine w_region ?_
              refine w_pure want_none (y_move (v := .int _ _) rfl rfl) rfl ?_
              refine w_pure want_none (y_move (v := .int _ _) rfl rfl) rfl ?_
              refine w_pure want_none (y_move (v := .int _ _) rfl rfl) rfl ?_
              refine w_pure want_none (y_sub rfl rfl rfl rfl (by omega) (by omega)) rfl ?_
              refine w_pure want_none (y_max2 rfl rfl rfl rfl) rfl ?_
              refine w_pure want_none (y_eql rfl rfl rfl rfl) rfl ?_
              refine w_pure want_none (y_move (v := .bool _) rfl rfl) rfl ?_
              refine w_split (fun h253 => ?_) (fun h253 => ?_)
              ·
               try simp only [Bool.not_eq_true', Bool.not_eq_false', decide_eq_true_eq, decide_eq_false_iff_not, Int.not_lt, Int.not_le] at h253
               refine w_call (want_yes rfl rfl rfl) Try.call21 rfl rfl rfl rfl (c21 hs228) ?_
               rintro _ w255 ⟨rfl, hs256⟩
               refine w_pure want_none (y_pickT (v := .bool _) rfl rfl rfl rfl) rfl ?_
               refine w_pure want_none (y_assign (v := .bool _) rfl rfl) rfl ?_
               refine w_nil ?_
               refine q_then (hK251 _ _ ?_)
               refine w_ret ?_
               refine q_ret (l := [.tmp 4]) (vs := [_]) rfl ⟨⟨rfl, show _ = (.bool _ : Value) from rfl⟩, trivial⟩ ?_
               exact ⟨rfl, hs256.drop.drop.drop.tail.drop.tail⟩
              ·
               exfalso
               try simp only [Bool.not_eq_true', Bool.not_eq_false', decide_eq_true_eq, decide_eq_false_iff_not, Int.not_lt, Int.not_le] at h253
               exact h253 heq
            ·
             try simp only [Bool.not_eq_true', Bool.not_eq_false', decide_eq_true_eq, decide_eq_false_iff_not, Int.not_lt, Int.not_le] at h249
             refine w_skipop rfl rfl rfl ?_
             refine w_skipop rfl rfl rfl ?_
             refine w_pure (want_yes rfl rfl rfl) (y_pickF (v := _) rfl rfl rfl rfl) rfl ?_
             refine w_pure want_none (y_pickF (v := .bool _) rfl rfl rfl rfl) rfl ?_
             refine w_nil ?_
             refine q_then (hK231 _ _ ?_)
             refine w_condF rfl rfl ?_
             refine w_skip ?_
             refine q_then (hK229 _ _ ?_)
             refine w_seq (fun K258 hK257 => ?_)
             refine w_region ?_
             refine w_pure want_none (y_move (v := .int _ _) rfl rfl) rfl ?_
             refine w_pure want_none (y_move (v := .int _ _) rfl rfl) rfl ?_
             refine w_pure want_none (y_move (v := .int _ _) rfl rfl) rfl ?_
             refine w_pure want_none (y_sub rfl rfl rfl rfl (by omega) (by omega)) rfl ?_
             refine w_pure want_none (y_max2 rfl rfl rfl rfl) rfl ?_
             refine w_pure want_none (y_eql rfl rfl rfl rfl) rfl ?_
             refine w_pure want_none (y_move (v := .bool _) rfl rfl) rfl ?_
             refine w_split (fun h259 => ?_) (fun h259 => ?_)
             ·
              try simp only [Bool.not_eq_true', Bool.not_eq_false', decide_eq_true_eq, decide_eq_false_iff_not, Int.not_lt, Int.not_le] at h259
              refine w_call (want_yes rfl rfl rfl) Try.call21 rfl rfl rfl rfl (c21 hs228) ?_
              rintro _ w261 ⟨rfl, hs262⟩
              refine w_pure want_none (y_pickT (v := .bool _) rfl rfl rfl rfl) rfl ?_
              refine w_pure want_none (y_assign (v := .bool _) rfl rfl) rfl ?_
              refine w_nil ?_
              refine q_then (hK257 _ _ ?_)
              refine w_ret ?_
              refine q_ret (l := [.tmp 4]) (vs := [_]) rfl ⟨⟨rfl, show _ = (.bool _ : Value) from rfl⟩, trivial⟩ ?_
              exact ⟨rfl, hs262.drop.drop.drop.tail.drop.tail⟩
             ·
              exfalso
              try simp only [Bool.not_eq_true', Bool.not_eq_false', decide_eq_true_eq, decide_eq_false_iff_not, Int.not_lt, Int.not_le] at h259
              exact h259 heq
        ·
         try simp only [Bool.not_eq_true', Bool.not_eq_false', decide_eq_true_eq, decide_eq_false_iff_not, Int.not_lt, Int.not_le] at h199
         refine w_skipop rfl rfl rfl ?_
         refine w_skipop rfl rfl rfl ?_
         refine w_pure (want_yes rfl rfl rfl) (y_pickF (v := _) rfl rfl rfl rfl) rfl ?_
         refine w_pure want_none (y_pickF (v := .bool _) rfl rfl rfl rfl) rfl ?_
         refine w_nil ?_
         refine q_then (hK66 _ _ ?_)
         refine w_condF rfl rfl ?_
         refine w_skip ?_
         refine q_then (hK64 _ _ ?_)
         refine w_seq (fun K264 hK263 => ?_)
         refine w_seq (fun K266 hK265 => ?_)
         refine w_region ?_
         refine w_pure want_none (y_loadN (vs := [_, _, _]) Try.isAgg26 Try.sizeOf26 hs63 rfl rfl hb10) rfl ?_
         refine w_call want_none Try.call35 rfl rfl rfl rfl (c35 (lateM m q) _ hm2.cons hs63) ?_
         rintro _ w268 ⟨rfl, hs269⟩
         refine w_pure want_none (y_not rfl rfl) rfl ?_
         refine w_nil ?_
         refine q_then (hK265 _ _ ?_)
         refine w_cond rfl rfl (fun h270 => ?_) (fun h270 => ?_)
         ·
          try simp only [Bool.not_eq_true', Bool.not_eq_false', decide_eq_true_eq, decide_eq_false_iff_not, Int.not_lt, Int.not_le] at h270
          refine w_seq (fun K272 hK271 => ?_)
          refine w_region ?_
          refine w_call want_none Try.call21 rfl rfl rfl rfl (c21 hs269) ?_
          rintro _ w274 ⟨rfl, hs275⟩
          refine w_pure want_none (y_assign (v := .bool _) rfl rfl) rfl ?_
          refine w_nil ?_
          refine q_then (hK271 _ _ ?_)
          refine w_ret ?_
          refine q_then_ret ?_
          refine q_ret (l := [.tmp 4]) (vs := [_]) rfl ⟨⟨rfl, show _ = (.bool _ : Value) from rfl⟩, trivial⟩ ?_
          exact ⟨rfl, hs275.tail.drop.tail⟩
         ·
          try simp only [Bool.not_eq_true', Bool.not_eq_false', decide_eq_true_eq, decide_eq_false_iff_not, Int.not_lt, Int.not_le] at h270
          refine w_skip ?_
          refine q_then (hK263 _ _ ?_)
          refine w_seq (fun K277 hK276 => ?_)
          have hcl : (check (lateM m q)).2.2 = 0 := by first | assumption | (refine Decidable.byContradiction fun h0 => ?_; simp_all)
          have hpf := hF.pf
          have hps := hF.ps hcl
          have heq := hF.eq hcl
          have hb1 := hF.b1
          have hb2 := hF.b2 hcl
          rw [show allL' m = (othersTo [] m.shops.length) from rfl] at hpf hps heq hb1 hb2
          refine w_region ?_
          refine w_pure want_none (y_loadN (vs := [_, _, _]) Try.isAgg26 Try.sizeOf26 hs269.tail.drop rfl rfl hbx) rfl ?_
          refine w_call want_none Try.call48 rfl rfl rfl rfl (c48 m _ hm.cons.app.cons hok  hs269) ?_
          rintro _ w279 ⟨AB, a_AB, c_AB, rfl, hs_AB, hs280⟩
          replace hs280 := (show St _ _ (AB ++ (_ :: BS ++ (_ :: F))) from hs280)
          refine w_pure want_none (y_assign (v := .slice _ _ _) rfl rfl) rfl ?_
          refine w_nil ?_
          refine q_then (hK276 _ _ ?_)
          refine w_seq (fun K282 hK281 => ?_)
          refine w_region ?_
          refine w_pure want_none (y_loadN (vs := [_, _, _]) Try.isAgg26 Try.sizeOf26 hs280.drop.tail.drop rfl rfl hbx) rfl ?_
          refine w_pure want_none (y_move (v := .slice _ _ _) rfl rfl) rfl ?_
          refine w_call want_none Try.call24 rfl rfl rfl rfl (c24 m _ hm.cons.app.cons.app _ _ (othersTo [] m.shops.length) (by omega) hs_AB.top hs280) ?_
          rintro _ w284 ⟨B1, a1, c1, rfl, hq1x, hs285⟩
          replace hs285 := (show St _ _ (B1 ++ (AB ++ (_ :: BS ++ (_ :: F)))) from hs285)
          refine w_pure want_none (y_move (v := .tuple _) rfl rfl) rfl ?_
          refine w_pure want_none (y_extract (v := .slice _ _ _) rfl rfl rfl) rfl ?_
          refine w_pure want_none (y_extract (v := .int _ _) rfl rfl rfl) rfl ?_
          refine w_pure want_none (y_extract (v := .int _ _) rfl rfl rfl) rfl ?_
          refine w_pure want_none (y_assign (v := .slice _ _ _) rfl rfl) rfl ?_
          refine w_pure want_none (y_assign (v := .int _ _) rfl rfl) rfl ?_
          refine w_pure want_none (y_assign (v := .int _ _) rfl rfl) rfl ?_
          refine w_nil ?_
          refine q_then (hK281 _ _ ?_)
          refine w_seq (fun K287 hK286 => ?_)
          refine w_region ?_
          refine w_pure want_none (y_loadN (vs := [_, _, _]) Try.isAgg26 Try.sizeOf26 hs285.drop.drop rfl rfl hb10) rfl ?_
          refine w_pure want_none (y_move (v := .slice _ _ _) rfl rfl) rfl ?_
          refine w_call want_none Try.call24 rfl rfl rfl rfl (c24 (lateM m q) _ hm2.cons.app.app _ _ (othersTo [] m.shops.length) (by omega) hs_AB.top.app hs285) ?_
          rintro _ w289 ⟨B2, a2, c2, rfl, hq2x, hs290⟩
          replace hs290 := (show St _ _ (B2 ++ (B1 ++ (AB ++ (_ :: BS ++ (_ :: F))))) from hs290)
          refine w_pure want_none (y_move (v := .tuple _) rfl rfl) rfl ?_
          refine w_pure want_none (y_extract (v := .slice _ _ _) rfl rfl rfl) rfl ?_
          refine w_pure want_none (y_extract (v := .int _ _) rfl rfl rfl) rfl ?_
          refine w_pure want_none (y_extract (v := .int _ _) rfl rfl rfl) rfl ?_
          refine w_pure want_none (y_assign (v := .slice _ _ _) rfl rfl) rfl ?_
          refine w_pure want_none (y_assign (v := .int _ _) rfl rfl) rfl ?_
          refine w_pure want_none (y_assign (v := .int _ _) rfl rfl) rfl ?_
          refine w_nil ?_
          refine q_then (hK286 _ _ ?_)
          refine w_seq (fun K292 hK291 => ?_)
          refine w_seq (fun K294 hK293 => ?_)
          refine w_region ?_
          refine w_pure want_none (y_move (v := .int _ _) rfl rfl) rfl ?_
          refine w_pure want_none (y_neq rfl rfl rfl rfl) rfl ?_
          refine w_pure want_none (y_move (v := .bool _) rfl rfl) rfl ?_
          refine w_split (fun h295 => ?_) (fun h295 => ?_)
          ·
           try simp only [Bool.not_eq_true', Bool.not_eq_false', decide_eq_true_eq, decide_eq_false_iff_not, Int.not_lt, Int.not_le] at h295
           refine w_pure (want_yes rfl rfl rfl) (y_move (v := .int _ _) rfl rfl) rfl ?_
           refine w_pure (want_yes rfl rfl rfl) (y_neq rfl rfl rfl rfl) rfl ?_
           refine w_pure want_none (y_pickT (v := .bool _) rfl rfl rfl rfl) rfl ?_
           refine w_pure want_none (y_move (v := .bool _) rfl rfl) rfl ?_
           refine w_split (fun h296 => ?_) (fun h296 => ?_)
           ·
            exfalso
            try simp only [Bool.not_eq_true', Bool.not_eq_false', decide_eq_true_eq, decide_eq_false_iff_not, Int.not_lt, Int.not_le] at h296
            omega
           ·
            try simp only [Bool.not_eq_true', Bool.not_eq_false', decide_eq_true_eq, decide_eq_false_iff_not, Int.not_lt, Int.not_le] at h296
            refine w_pure (want_yes rfl rfl rfl) (y_move (v := .int _ _) rfl rfl) rfl ?_
            refine w_pure (want_yes rfl rfl rfl) (y_neq rfl rfl rfl rfl) rfl ?_
            refine w_pure (want_yes rfl rfl rfl) (y_move (v := .bool _) rfl rfl) rfl ?_
            refine w_split (fun h297 => ?_) (fun h297 => ?_)
            ·
             try simp only [Bool.not_eq_true', Bool.not_eq_false', decide_eq_true_eq, decide_eq_false_iff_not, Int.not_lt, Int.not_le] at h297
             refine w_pure (want_yes rfl rfl rfl) (y_move (v := .int _ _) rfl rfl) rfl ?_
             refine w_pure (want_yes rfl rfl rfl) (y_neq rfl rfl rfl rfl) rfl ?_
             refine w_pure (want_yes rfl rfl rfl) (y_pickT (v := .bool _) rfl rfl rfl rfl) rfl ?_
             refine w_pure want_none (y_pickF (v := .bool _) rfl rfl rfl rfl) rfl ?_
             refine w_nil ?_
             refine q_then (hK293 _ _ ?_)
             refine w_cond rfl rfl (fun h298 => ?_) (fun h298 => ?_)
             ·
              exfalso
              try simp only [Bool.not_eq_true', Bool.not_eq_false', decide_eq_true_eq, decide_eq_false_iff_not, Int.not_lt, Int.not_le] at h298
              omega
             ·
              try simp only [Bool.not_eq_true', Bool.not_eq_false', decide_eq_true_eq, decide_eq_false_iff_not, Int.not_lt, Int.not_le] at h298
              refine w_skip ?_
              refine q_then (hK291 _ _ ?_)
              refine w_seq (fun K300 hK299 => ?_)
              refine w_region ?_
              refine w_pure want_none (y_move (v := .int _ _) rfl rfl) rfl ?_
              refine w_pure want_none (y_move (v := .int _ _) rfl rfl) rfl ?_
              refine w_pure want_none (y_move (v := .int _ _) rfl rfl) rfl ?_
              refine w_pure want_none (y_sub rfl rfl rfl rfl (by omega) (by omega)) rfl ?_
              refine w_pure want_none (y_max2 rfl rfl rfl rfl) rfl ?_
              refine w_pure want_none (y_eql rfl rfl rfl rfl) rfl ?_
              refine w_pure want_none (y_move (v := .bool _) rfl rfl) rfl ?_
              refine w_split (fun h301 => ?_) (fun h301 => ?_)
              ·
               try simp only [Bool.not_eq_true', Bool.not_eq_false', decide_eq_true_eq, decide_eq_false_iff_not, Int.not_lt, Int.not_le] at h301
               refine w_call (want_yes rfl rfl rfl) Try.call21 rfl rfl rfl rfl (c21 hs290) ?_
               rintro _ w303 ⟨rfl, hs304⟩
               refine w_pure want_none (y_pickT (v := .bool _) rfl rfl rfl rfl) rfl ?_
               refine w_pure want_none (y_assign (v := .bool _) rfl rfl) rfl ?_
               refine w_nil ?_
               refine q_then (hK299 _ _ ?_)
               refine w_ret ?_
               refine q_ret (l := [.tmp 4]) (vs := [_]) rfl ⟨⟨rfl, show _ = (.bool _ : Value) from rfl⟩, trivial⟩ ?_
               exact ⟨rfl, hs304.drop.drop.drop.tail.drop.tail⟩
              ·
               exfalso
               try simp only [Bool.not_eq_true', Bool.not_eq_false', decide_eq_true_eq, decide_eq_false_iff_not, Int.not_lt, Int.not_le] at h301
               exact h301 heq
            ·
             try simp only [Bool.not_eq_true', Bool.not_eq_false', decide_eq_true_eq, decide_eq_false_iff_not, Int.not_lt, Int.not_le] at h297
             refine w_skipop rfl rfl rfl ?_
             refine w_skipop rfl rfl rfl ?_
             refine w_pure (want_yes rfl rfl rfl) (y_pickF (v := _) rfl rfl rfl rfl) rfl ?_
             refine w_pure want_none (y_pickF (v := .bool _) rfl rfl rfl rfl) rfl ?_
             refine w_nil ?_
             refine q_then (hK293 _ _ ?_)
             refine w_condF rfl rfl ?_
             refine w_skip ?_
             refine q_then (hK291 _ _ ?_)
             refine w_seq (fun K306 hK305 => ?_)
             refine w_region ?_
             refine w_pure want_none (y_move (v := .int _ _) rfl rfl) rfl ?_
             refine w_pure want_none (y_move (v := .int _ _) rfl rfl) rfl ?_
             refine w_pure want_none (y_move (v := .int _ _) rfl rfl) rfl ?_
             refine w_pure want_none (y_sub rfl rfl rfl rfl (by omega) (by omega)) rfl ?_
             refine w_pure want_none (y_max2 rfl rfl rfl rfl) rfl ?_
             refine w_pure want_none (y_eql rfl rfl rfl rfl) rfl ?_
             refine w_pure want_none (y_move (v := .bool _) rfl rfl) rfl ?_
             refine w_split (fun h307 => ?_) (fun h307 => ?_)
             ·
              try simp only [Bool.not_eq_true', Bool.not_eq_false', decide_eq_true_eq, decide_eq_false_iff_not, Int.not_lt, Int.not_le] at h307
              refine w_call (want_yes rfl rfl rfl) Try.call21 rfl rfl rfl rfl (c21 hs290) ?_
              rintro _ w309 ⟨rfl, hs310⟩
              refine w_pure want_none (y_pickT (v := .bool _) rfl rfl rfl rfl) rfl ?_
              refine w_pure want_none (y_assign (v := .bool _) rfl rfl) rfl ?_
              refine w_nil ?_
              refine q_then (hK305 _ _ ?_)
              refine w_ret ?_
              refine q_ret (l := [.tmp 4]) (vs := [_]) rfl ⟨⟨rfl, show _ = (.bool _ : Value) from rfl⟩, trivial⟩ ?_
              exact ⟨rfl, hs310.drop.drop.drop.tail.drop.tail⟩
             ·
              exfalso
              try simp only [Bool.not_eq_true', Bool.not_eq_false', decide_eq_true_eq, decide_eq_false_iff_not, Int.not_lt, Int.not_le] at h307
              exact h307 heq
          ·
           try simp only [Bool.not_eq_true', Bool.not_eq_false', decide_eq_true_eq, decide_eq_false_iff_not, Int.not_lt, Int.not_le] at h295
           refine w_skipop rfl rfl rfl ?_
           refine w_skipop rfl rfl rfl ?_
           refine w_pure want_none (y_pickF (v := _) rfl rfl rfl rfl) rfl ?_
           refine w_pure want_none (y_move (v := .bool _) rfl rfl) rfl ?_
           refine w_pure (want_yes rfl rfl rfl) (y_move (v := .int _ _) rfl rfl) rfl ?_
           refine w_pure (want_yes rfl rfl rfl) (y_neq rfl rfl rfl rfl) rfl ?_
           refine w_pure (want_yes rfl rfl rfl) (y_move (v := .bool _) rfl rfl) rfl ?_
           refine w_split (fun h311 => ?_) (fun h311 => ?_)
           ·
            try simp only [Bool.not_eq_true', Bool.not_eq_false', decide_eq_true_eq, decide_eq_false_iff_not, Int.not_lt, Int.not_le] at h311
            refine w_pure (want_yes rfl rfl rfl) (y_move (v := .int _ _) rfl rfl) rfl ?_
            refine w_pure (want_yes rfl rfl rfl) (y_neq rfl rfl rfl rfl) rfl ?_
            refine w_pure (want_yes rfl rfl rfl) (y_pickT (v := .bool _) rfl rfl rfl rfl) rfl ?_
            refine w_pure want_none (y_pickF (v := .bool _) rfl rfl rfl rfl) rfl ?_
            refine w_nil ?_
            refine q_then (hK293 _ _ ?_)
            refine w_cond rfl rfl (fun h312 => ?_) (fun h312 => ?_)
            ·
             exfalso
             try simp only [Bool.not_eq_true', Bool.not_eq_false', decide_eq_true_eq, decide_eq_false_iff_not, Int.not_lt, Int.not_le] at h312
             omega
            ·
             try simp only [Bool.not_eq_true', Bool.not_eq_false', decide_eq_true_eq, decide_eq_false_iff_not, Int.not_lt, Int.not_le] at h312
             refine w_skip ?_
             refine q_then (hK291 _ _ ?_)
             refine w_seq (fun K314 hK313 => ?_)
             refine w_region ?_
             refine w_pure want_none (y_move (v := .int _ _) rfl rfl) rfl ?_
             refine w_pure want_none (y_move (v := .int _ _) rfl rfl) rfl ?_
             refine w_pure want_none (y_move (v := .int _ _) rfl rfl) rfl ?_
             refine w_pure want_none (y_sub rfl rfl rfl rfl (by omega) (by omega)) rfl ?_
             refine w_pure want_none (y_max2 rfl rfl rfl rfl) rfl ?_
             refine w_pure want_none (y_eql rfl rfl rfl rfl) rfl ?_
             refine w_pure want_none (y_move (v := .bool _) rfl rfl) rfl ?_
             refine w_split (fun h315 => ?_) (fun h315 => ?_)
             ·
              try simp only [Bool.not_eq_true', Bool.not_eq_false', decide_eq_true_eq, decide_eq_false_iff_not, Int.not_lt, Int.not_le] at h315
              refine w_call (want_yes rfl rfl rfl) Try.call21 rfl rfl rfl rfl (c21 hs290) ?_
              rintro _ w317 ⟨rfl, hs318⟩
              refine w_pure want_none (y_pickT (v := .bool _) rfl rfl rfl rfl) rfl ?_
              refine w_pure want_none (y_assign (v := .bool _) rfl rfl) rfl ?_
              refine w_nil ?_
              refine q_then (hK313 _ _ ?_)
              refine w_ret ?_
              refine q_ret (l := [.tmp 4]) (vs := [_]) rfl ⟨⟨rfl, show _ = (.bool _ : Value) from rfl⟩, trivial⟩ ?_
              exact ⟨rfl, hs318.drop.drop.drop.tail.drop.tail⟩
             ·
              exfalso
              try simp only [Bool.not_eq_true', Bool.not_eq_false', decide_eq_true_eq, decide_eq_false_iff_not, Int.not_lt, Int.not_le] at h315
              exact h315 heq
           ·
            try simp only [Bool.not_eq_true', Bool.not_eq_false', decide_eq_true_eq, decide_eq_false_iff_not, Int.not_lt, Int.not_le] at h311
            refine w_skipop rfl rfl rfl ?_
            refine w_skipop rfl rfl rfl ?_
            refine w_pure (want_yes rfl rfl rfl) (y_pickF (v := _) rfl rfl rfl rfl) rfl ?_
            refine w_pure want_none (y_pickF (v := .bool _) rfl rfl rfl rfl) rfl ?_
            refine w_nil ?_
            refine q_then (hK293 _ _ ?_)
            refine w_condF rfl rfl ?_
            refine w_skip ?_
            refine q_then (hK291 _ _ ?_)
            refine w_seq (fun K320 hK319 => ?_)
            refine w_region ?_
            refine w_pure want_none (y_move (v := .int _ _) rfl rfl) rfl ?_
            refine w_pure want_none (y_move (v := .int _ _) rfl rfl) rfl ?_
            refine w_pure want_none (y_move (v := .int _ _) rfl rfl) rfl ?_
            refine w_pure want_none (y_sub rfl rfl rfl rfl (by omega) (by omega)) rfl ?_
            refine w_pure want_none (y_max2 rfl rfl rfl rfl) rfl ?_
            refine w_pure want_none (y_eql rfl rfl rfl rfl) rfl ?_
            refine w_pure want_none (y_move (v := .bool _) rfl rfl) rfl ?_
            refine w_split (fun h321 => ?_) (fun h321 => ?_)
            ·
             try simp only [Bool.not_eq_true', Bool.not_eq_false', decide_eq_true_eq, decide_eq_false_iff_not, Int.not_lt, Int.not_le] at h321
             refine w_call (want_yes rfl rfl rfl) Try.call21 rfl rfl rfl rfl (c21 hs290) ?_
             rintro _ w323 ⟨rfl, hs324⟩
             refine w_pure want_none (y_pickT (v := .bool _) rfl rfl rfl rfl) rfl ?_
             refine w_pure want_none (y_assign (v := .bool _) rfl rfl) rfl ?_
             refine w_nil ?_
             refine q_then (hK319 _ _ ?_)
             refine w_ret ?_
             refine q_ret (l := [.tmp 4]) (vs := [_]) rfl ⟨⟨rfl, show _ = (.bool _ : Value) from rfl⟩, trivial⟩ ?_
             exact ⟨rfl, hs324.drop.drop.drop.tail.drop.tail⟩
            ·
             exfalso
             try simp only [Bool.not_eq_true', Bool.not_eq_false', decide_eq_true_eq, decide_eq_false_iff_not, Int.not_lt, Int.not_le] at h321
             exact h321 heq

end Go.Proofs
