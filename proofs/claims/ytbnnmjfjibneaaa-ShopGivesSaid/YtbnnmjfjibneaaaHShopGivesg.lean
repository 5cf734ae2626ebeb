/- Own texts of this claim, joined. No conditions. -/
import GoSem.Core.Value
import Derived.Test.YtbnnmjfjibneaaaHShopGivesa
import Derived.Test.YtbnnmjfjibneaaaHShopGivesb
import Derived.Test.YtbnnmjfjibneaaaHShopGivesc
import Derived.Test.YtbnnmjfjibneaaaHShopGivesd
import Derived.Test.YtbnnmjfjibneaaaHShopGivese
import Derived.Test.YtbnnmjfjibneaaaHShopGivesf
/- Walks of this seat, printed by gen.py over the engine: what each function returns, in whatever world. No conditions but those of each contract. -/
set_option linter.unusedVariables false
set_option linter.unusedSimpArgs false
set_option maxRecDepth 20000
namespace Go.Proofs
open Go.Rt Go.Rt.Sh
attribute [local irreducible] WL WC Con Yd At Ats Sl Agree DW

theorem c49 {w0 w : World} {F : List (Nat × Obj)} (m : Market) (p : At3) (hm : MIn w0 F m p) (hok : m.Ok) (ah : Option Addr) (ch : Nat) (hands : List Int) (hhl : hands.length = m.rooms.length) (hhs : Sl w0 F ah 1 (hands.map fun x => [Value.int .i64 x])) (hhb : ∀ z ∈ hands, -10000 ≤ z ∧ z ≤ 10000) (al : Option Addr) (cl : Nat) (l : List Int) (hll : l.length ≤ 4) (hl : Sl w0 F al 1 (l.map fun x => [Value.int .i64 x])) (hlb : ∀ z ∈ l, 0 ≤ z ∧ z < m.shops.length)  (hs : St w0 w F) :
  Con Try.prog 49 [.agg (m.cells p).toArray, .slice ah hands.length ch, .slice al l.length cl] w fun v w' => v = .bool (servedR m hands l) ∧ St w0 w' F := by
  refine con_of_wc (n := 20) Try.func49 rfl rfl (Nat.le_of_ble_eq_true rfl) ?_
  refine w_seq (fun K2 hK1 => ?_)
  refine w_region ?_
  refine w_box (v := .agg #[.slice _ _ _, .slice _ _ _, .slice _ _ _]) (cs := [_, _, _]) want_none rfl rfl rfl hs (fun b3 w4 hs5 => ?_)
  refine w_pure want_none (y_assign (v := _) rfl rfl) rfl ?_
  refine w_nil ?_
  refine q_then (hK1 _ _ ?_)
  refine w_seq (fun K7 hK6 => ?_)
  have hbx : Ats w0 ((b3, blk 26 (m.cells p)) :: F) b3 0 (m.cells p) := ats_own (i := 0) (vs := m.cells p) rfl rfl
  refine w_draw [] [(0, 1), (1, 0), (2, 1), (4, 0), (3, 2), (5, 2), (6, 0), (7, 0), (8, 0), (9, 0), (10, 0)] Try_mo (by kernel_rfl) hs5 (fun w8 hs9 => ?_)
  refine d_take rfl want_none rfl hs9 (fun _ hq => (y_loadN (vs := [_, _, _]) Try.isAgg26 Try.sizeOf26 hq rfl rfl hbx)) ?_
  refine d_any rfl want_none rfl (fun _ => (y_move (v := .slice _ _ _) rfl rfl)) ?_
  refine d_take rfl want_none rfl hs9 (fun _ hq => (y_loadN (vs := [_, _, _]) Try.isAgg26 Try.sizeOf26 hq rfl rfl hbx)) ?_
  refine d_any rfl want_none rfl (fun _ => (y_move (v := .slice _ _ _) rfl rfl)) ?_
  refine d_eff rfl ?_
  refine w_call want_none Try.call72 rfl rfl rfl rfl (c72 m _ hm.cons hok  hs9) ?_
  rintro _ w11 ⟨BW, a_BW, c_BW, rfl, hs_BW, hs12⟩
  replace hs12 := (show St _ _ (BW ++ (_ :: F)) from hs12)
  refine w_nil ?_
  refine qn ⟨hs12.drop, ?_⟩
  refine d_eff rfl ?_
  refine w_call want_none Try.call71 rfl rfl rfl rfl (c71 m _ hm.cons.app hok _ _ hands hhl hhs.cons.app hhb _ _ (wantsL m) (List.length_map _) hs_BW.top (wantsL_in hok) _ _ l (by omega) hl.cons.app hlb 0 (Nat.zero_le _) hs12) ?_
  rintro _ w14 ⟨BX, aX, cX, rfl, hsX, hs15⟩
  replace hs15 := (show St _ _ (BX ++ (BW ++ (_ :: F))) from hs15)
  refine w_nil ?_
  refine qn ⟨hs15.drop.drop, ?_⟩
  refine d_any rfl want_none rfl (fun _ => (y_move (v := .tuple _) rfl rfl)) ?_
  refine d_any rfl want_none rfl (fun _ => (y_extract (v := .slice _ _ _) rfl rfl rfl)) ?_
  refine d_any rfl want_none rfl (fun _ => (y_extract (v := .int _ _) rfl rfl rfl)) ?_
  refine d_any rfl want_none rfl (fun _ => (y_assign (v := .slice _ _ _) rfl rfl)) ?_
  refine d_any rfl want_none rfl (fun _ => (y_assign (v := .int _ _) rfl rfl)) ?_
  refine d_nil ?_
  refine q_then (hK6 _ _ ?_)
  refine w_seq (fun K17 hK16 => ?_)
  refine w_region ?_
  refine w_pure want_none (y_move (v := .int _ _) rfl rfl) rfl ?_
  refine w_pure want_none (y_eql rfl rfl rfl rfl) rfl ?_
  refine w_pure want_none (y_assign (v := .bool _) rfl rfl) rfl ?_
  refine w_nil ?_
  refine q_then (hK16 _ _ ?_)
  refine w_ret ?_
  refine q_ret (l := [.tmp 6]) (vs := [_]) rfl ⟨⟨rfl, show _ = (.bool _ : Value) from rfl⟩, trivial⟩ ?_
  exact ⟨rfl, hs15.drop.drop.tail⟩

theorem c69 {w0 w : World} {F : List (Nat × Obj)} (m : Market) (p : At3) (hm : MIn w0 F m p) (al : Option Addr) (cl : Nat) (l : List Int) (hll : l.length ≤ 9223372036854775807) (hl : Sl w0 F al 1 (l.map fun x => [Value.int .i64 x]))  (hs : St w0 w F) :
  Con Try.prog 69 [.agg (m.cells p).toArray, .slice al l.length cl] w fun v w' => v = .int .i64 (askedE m l) ∧ St w0 w' F := by
  refine con_of_wc (n := 46) Try.func69 rfl rfl (Nat.le_of_ble_eq_true rfl) ?_
  obtain ⟨ar, cr, as_, cs, at_, ct⟩ := p
  have hls := hm.ls
  refine w_seq (fun K2 hK1 => ?_)
  refine w_region ?_
  refine w_box (v := .agg #[.slice _ _ _, .slice _ _ _, .slice _ _ _]) (cs := [_, _, _]) want_none rfl rfl rfl hs (fun b3 w4 hs5 => ?_)
  refine w_pure want_none (y_assign (v := _) rfl rfl) rfl ?_
  refine w_nil ?_
  refine q_then (hK1 _ _ ?_)
  refine w_seq (fun K7 hK6 => ?_)
  refine w_region ?_
  refine w_pure want_none (y_loadN (vs := [_, _, _]) Try.isAgg26 Try.sizeOf26 hs5 rfl rfl (ats_own (i := 0) (vs := [_, _, _]) rfl rfl)) rfl ?_
  refine w_call want_none Try.call17 rfl rfl rfl rfl (c17 m _ hm.cons hs5) ?_
  rintro _ w9 ⟨rfl, hs10⟩
  refine w_pure want_none (y_move (v := .tuple _) rfl rfl) rfl ?_
  refine w_pure want_none (y_extract (v := .int _ _) rfl rfl rfl) rfl ?_
  refine w_pure want_none (y_extract (v := .int _ _) rfl rfl rfl) rfl ?_
  refine w_pure want_none (y_extract (v := .int _ _) rfl rfl rfl) rfl ?_
  refine w_pure want_none (y_assign (v := .int _ _) rfl rfl) rfl ?_
  refine w_pure want_none (y_assign (v := .int _ _) rfl rfl) rfl ?_
  refine w_pure want_none (y_assign (v := .int _ _) rfl rfl) rfl ?_
  refine w_nil ?_
  refine q_then (hK6 _ _ ?_)
  refine w_seq (fun K12 hK11 => ?_)
  refine w_seq (fun K14 hK13 => ?_)
  refine w_region ?_
  refine w_pure want_none (y_assign (v := _) rfl rfl) rfl ?_
  refine w_nil ?_
  refine q_then (hK13 _ _ ?_)
  refine w_block ?_
  refine w_loop [7, 8, 15, 16, 17, 18, 19, 20, 21, 22, 23, 24, 25, 26, 27, 28, 29, 30, 31, 32, 33, 34] [7, 8] (fun k vs w => ∃ i : Nat, vs = [.int .i64 (askTo m l i), .int .i64 i] ∧ i ≤ l.length ∧ k = l.length - i ∧ St w0 w ((b3, blk 26 (m.cells ⟨ar, cr, as_, cs, at_, ct⟩)) :: F)) (l.length) ?_ ?_
  ·
   exact ⟨0, by rw [askTo_zero]; rfl, by omega, by omega, hs10⟩
  ·
   intro k vs μ w17 hI K16 hN15
   obtain ⟨i, rfl, hia, rfl, hs⟩ := hI
   refine w_seq (fun K19 hK18 => ?_)
   refine w_seq (fun K21 hK20 => ?_)
   refine w_region ?_
   refine w_pure want_none (y_move (v := .int _ _) rfl rfl) rfl ?_
   refine w_pure want_none (y_move (v := .slice _ _ _) rfl rfl) rfl ?_
   refine w_pure want_none (y_lenS Try.underlying30 rfl rfl) rfl ?_
   refine w_pure want_none (y_lss rfl rfl rfl rfl) rfl ?_
   refine w_pure want_none (y_move (v := .bool _) rfl rfl) rfl ?_
   refine w_split (fun h22 => ?_) (fun h22 => ?_)
   ·
    try simp only [Bool.not_eq_true', Bool.not_eq_false', decide_eq_true_eq, decide_eq_false_iff_not, Int.not_lt, Int.not_le] at h22
    refine w_pure (want_yes rfl rfl rfl) (y_move (v := .int _ _) rfl rfl) rfl ?_
    refine w_pure (want_yes rfl rfl rfl) (y_eql rfl rfl rfl rfl) rfl ?_
    refine w_pure want_none (y_pickT (v := .bool _) rfl rfl rfl rfl) rfl ?_
    refine w_nil ?_
    refine q_then (hK20 _ _ ?_)
    refine w_cond rfl rfl (fun h23 => ?_) (fun h23 => ?_)
    ·
     try simp only [Bool.not_eq_true', Bool.not_eq_false', decide_eq_true_eq, decide_eq_false_iff_not, Int.not_lt, Int.not_le] at h23
     refine w_skip ?_
     refine q_then (hK18 _ _ ?_)
     refine w_seq (fun K25 hK24 => ?_)
     refine w_block ?_
     refine w_seq (fun K27 hK26 => ?_)
     have hi2 : i < l.length := by omega
     obtain ⟨bx, ox, hbx, hx⟩ := sl_ints hl hi2
     subst hbx
     refine w_draw [] [(0, 0), (1, 0), (2, 0), (3, 1), (4, 0), (5, 1), (6, 0), (7, 0), (8, 2), (9, 0)] Try_mo (by kernel_rfl) hs (fun w28 hs29 => ?_)
     refine d_any rfl want_none rfl (fun _ => (y_move (v := .slice _ _ _) rfl rfl)) ?_
     refine d_any rfl want_none rfl (fun _ => (y_move (v := .int _ _) rfl rfl)) ?_
     refine d_any rfl want_none rfl (fun _ => (y_indexS Try.underlying30 Try.sizeOf3 rfl rfl rfl rfl (i := _) rfl (by omega))) ?_
     refine d_take rfl want_none rfl hs29 (fun _ hq => (y_load1 Try.isAgg3 hq.tail rfl rfl hx)) ?_
     refine d_any rfl want_none rfl (fun _ => (y_fieldAddr (o := 1) (i := 1) Try.underlying26 rfl Try.sizeOf23 rfl rfl rfl)) ?_
     refine d_take rfl want_none rfl hs29 (fun _ hq => (y_load1 Try.isAgg23 hq rfl rfl (ats_own (i := 0) (vs := [_]) rfl rfl))) ?_
     refine d_any rfl want_none rfl (fun _ => (y_lenS Try.underlying23 rfl rfl)) ?_
     refine d_any rfl want_none rfl (fun _ => (y_sub rfl rfl rfl rfl (by omega) (by omega))) ?_
     refine d_eff rfl ?_
     refine w_call want_none Try.call51 rfl rfl rfl rfl (c51 _ _ _ hs29) ?_
     rintro _ w31 ⟨rfl, hs32⟩
     refine w_nil ?_
     refine qn ⟨hs32, ?_⟩
     refine d_any rfl want_none rfl (fun _ => (y_not rfl rfl)) ?_
     refine d_nil ?_
     refine q_then (hK26 _ _ ?_)
     refine w_cond rfl rfl (fun h33 => ?_) (fun h33 => ?_)
     ·
      try simp only [Bool.not_eq_true', Bool.not_eq_false', decide_eq_true_eq, decide_eq_false_iff_not, Int.not_lt, Int.not_le] at h33
      refine w_region ?_
      refine w_pure want_none (y_assign (v := _) rfl rfl) rfl ?_
      refine w_nil ?_
      refine q_blk_normal ?_
      refine q_then (hK24 _ _ ?_)
      refine w_region ?_
      refine w_pure want_none (y_move (v := .int _ _) rfl rfl) rfl ?_
      refine w_pure want_none (y_add rfl rfl rfl rfl (by omega) (by omega)) rfl ?_
      refine w_pure want_none (y_assign (v := .int _ _) rfl rfl) rfl ?_
      refine w_nil ?_
      refine q_then (hN15 _ _ (Nx.intro (l.length - (i + 1)) (by omega) (by repeat (first | exact agree_mix | refine agree_upd rfl ?_ | refine agree_updL rfl ?_ _ | refine agree_mixin rfl ?_)) ?_))
      first
        | exact ⟨i + 1, by rw [askTo_bad hi2 (by assumption) (by assumption)]; rfl, by omega, rfl, hs32⟩
        | exact ⟨i + 1, by rw [askTo_good hi2 (by assumption) (by assumption)]; rfl, by omega, rfl, hs32⟩
     ·
      try simp only [Bool.not_eq_true', Bool.not_eq_false', decide_eq_true_eq, decide_eq_false_iff_not, Int.not_lt, Int.not_le] at h33
      refine w_skip ?_
      refine q_blk_normal ?_
      refine q_then (hK24 _ _ ?_)
      refine w_region ?_
      refine w_pure want_none (y_move (v := .int _ _) rfl rfl) rfl ?_
      refine w_pure want_none (y_add rfl rfl rfl rfl (by omega) (by omega)) rfl ?_
      refine w_pure want_none (y_assign (v := .int _ _) rfl rfl) rfl ?_
      refine w_nil ?_
      refine q_then (hN15 _ _ (Nx.intro (l.length - (i + 1)) (by omega) (by repeat (first | exact agree_mix | refine agree_upd rfl ?_ | refine agree_updL rfl ?_ _ | refine agree_mixin rfl ?_)) ?_))
      first
        | exact ⟨i + 1, by rw [askTo_bad hi2 (by assumption) (by assumption)]; rfl, by omega, rfl, hs32⟩
        | exact ⟨i + 1, by rw [askTo_good hi2 (by assumption) (by assumption)]; rfl, by omega, rfl, hs32⟩
    ·
     try simp only [Bool.not_eq_true', Bool.not_eq_false', decide_eq_true_eq, decide_eq_false_iff_not, Int.not_lt, Int.not_le] at h23
     refine w_exit ?_
     refine q_then_exit ?_
     refine q_then_exit ?_
     refine q_blk_this ?_
     refine q_then (hK11 _ _ ?_)
     refine w_seq (fun K35 hK34 => ?_)
     refine w_seq (fun K37 hK36 => ?_)
     refine w_region ?_
     refine w_pure want_none (y_move (v := .int _ _) rfl rfl) rfl ?_
     refine w_pure want_none (y_eql rfl rfl rfl rfl) rfl ?_
     refine w_pure want_none (y_move (v := .bool _) rfl rfl) rfl ?_
     refine w_split (fun h38 => ?_) (fun h38 => ?_)
     ·
      try simp only [Bool.not_eq_true', Bool.not_eq_false', decide_eq_true_eq, decide_eq_false_iff_not, Int.not_lt, Int.not_le] at h38
      refine w_pure (want_yes rfl rfl rfl) (y_move (v := .slice _ _ _) rfl rfl) rfl ?_
      refine w_pure (want_yes rfl rfl rfl) (y_fieldAddr (o := 1) (i := 1) Try.underlying26 rfl Try.sizeOf23 rfl rfl rfl) rfl ?_
      refine w_pure (want_yes rfl rfl rfl) (y_load1 Try.isAgg23 hs rfl rfl (ats_own (i := 0) (vs := [_]) rfl rfl)) rfl ?_
      refine w_pure (want_yes rfl rfl rfl) (y_lenS Try.underlying23 rfl rfl) rfl ?_
      refine w_call (want_yes rfl rfl rfl) Try.call38 rfl rfl rfl rfl (c38 _ _ l (by omega) hl.cons _ hs) ?_
      rintro _ w40 ⟨rfl, hs41⟩
      refine w_pure (want_yes rfl rfl rfl) (y_not rfl rfl) rfl ?_
      refine w_pure want_none (y_pickT (v := .bool _) rfl rfl rfl rfl) rfl ?_
      refine w_nil ?_
      refine q_then (hK36 _ _ ?_)
      refine w_cond rfl rfl (fun h42 => ?_) (fun h42 => ?_)
      ·
       try simp only [Bool.not_eq_true', Bool.not_eq_false', decide_eq_true_eq, decide_eq_false_iff_not, Int.not_lt, Int.not_le] at h42
       refine w_region ?_
       refine w_pure want_none (y_assign (v := _) rfl rfl) rfl ?_
       refine w_nil ?_
       refine q_then (hK34 _ _ ?_)
       refine w_seq (fun K44 hK43 => ?_)
       refine w_region ?_
       refine w_pure want_none (y_move (v := .int _ _) rfl rfl) rfl ?_
       refine w_pure want_none (y_assign (v := .int _ _) rfl rfl) rfl ?_
       refine w_nil ?_
       refine q_then (hK43 _ _ ?_)
       refine w_ret ?_
       refine q_ret (l := [.tmp 4]) (vs := [_]) rfl ⟨⟨rfl, show _ = (.int _ _ : Value) from rfl⟩, trivial⟩ ?_
       have hst : askTo m l l.length = askTo m l i := (by by_cases h0 : askTo m l i = 0; (have hil : i = l.length := (by omega); rw [hil]); exact askTo_stop hia h0)
       first
         | exact ⟨congrArg (Value.int .i64) (by unfold askedE; rw [if_pos ⟨by rw [hst]; assumption, by assumption⟩]), hs41.tail⟩
         | exact ⟨congrArg (Value.int .i64) (by unfold askedE; rw [if_neg (fun h => by first | (have h8 := h.1; rw [hst] at h8; contradiction) | (have h9 := h.2; simp_all)), hst]), hs41.tail⟩
      ·
       try simp only [Bool.not_eq_true', Bool.not_eq_false', decide_eq_true_eq, decide_eq_false_iff_not, Int.not_lt, Int.not_le] at h42
       refine w_skip ?_
       refine q_then (hK34 _ _ ?_)
       refine w_seq (fun K46 hK45 => ?_)
       refine w_region ?_
       refine w_pure want_none (y_move (v := .int _ _) rfl rfl) rfl ?_
       refine w_pure want_none (y_assign (v := .int _ _) rfl rfl) rfl ?_
       refine w_nil ?_
       refine q_then (hK45 _ _ ?_)
       refine w_ret ?_
       refine q_ret (l := [.tmp 4]) (vs := [_]) rfl ⟨⟨rfl, show _ = (.int _ _ : Value) from rfl⟩, trivial⟩ ?_
       have hst : askTo m l l.length = askTo m l i := (by by_cases h0 : askTo m l i = 0; (have hil : i = l.length := (by omega); rw [hil]); exact askTo_stop hia h0)
       first
         | exact ⟨congrArg (Value.int .i64) (by unfold askedE; rw [if_pos ⟨by rw [hst]; assumption, by assumption⟩]), hs41.tail⟩
         | exact ⟨congrArg (Value.int .i64) (by unfold askedE; rw [if_neg (fun h => by first | (have h8 := h.1; rw [hst] at h8; contradiction) | (have h9 := h.2; simp_all)), hst]), hs41.tail⟩
     ·
      try simp only [Bool.not_eq_true', Bool.not_eq_false', decide_eq_true_eq, decide_eq_false_iff_not, Int.not_lt, Int.not_le] at h38
      refine w_skipop rfl rfl rfl ?_
      refine w_skipop rfl rfl rfl ?_
      refine w_skipop rfl rfl rfl ?_
      refine w_skipop rfl rfl rfl ?_
      refine w_skipop rfl rfl rfl ?_
      refine w_skipop rfl rfl rfl ?_
      refine w_pure want_none (y_pickF (v := _) rfl rfl rfl rfl) rfl ?_
      refine w_nil ?_
      refine q_then (hK36 _ _ ?_)
      refine w_condF rfl rfl ?_
      refine w_skip ?_
      refine q_then (hK34 _ _ ?_)
      refine w_seq (fun K48 hK47 => ?_)
      refine w_region ?_
      refine w_pure want_none (y_move (v := .int _ _) rfl rfl) rfl ?_
      refine w_pure want_none (y_assign (v := .int _ _) rfl rfl) rfl ?_
      refine w_nil ?_
      refine q_then (hK47 _ _ ?_)
      refine w_ret ?_
      refine q_ret (l := [.tmp 4]) (vs := [_]) rfl ⟨⟨rfl, show _ = (.int _ _ : Value) from rfl⟩, trivial⟩ ?_
      have hst : askTo m l l.length = askTo m l i := (by by_cases h0 : askTo m l i = 0; (have hil : i = l.length := (by omega); rw [hil]); exact askTo_stop hia h0)
      first
        | exact ⟨congrArg (Value.int .i64) (by unfold askedE; rw [if_pos ⟨by rw [hst]; assumption, by assumption⟩]), hs.tail⟩
        | exact ⟨congrArg (Value.int .i64) (by unfold askedE; rw [if_neg (fun h => by first | (have h8 := h.1; rw [hst] at h8; contradiction) | (have h9 := h.2; simp_all)), hst]), hs.tail⟩
   ·
    try simp only [Bool.not_eq_true', Bool.not_eq_false', decide_eq_true_eq, decide_eq_false_iff_not, Int.not_lt, Int.not_le] at h22
    refine w_skipop rfl rfl rfl ?_
    refine w_skipop rfl rfl rfl ?_
    refine w_pure want_none (y_pickF (v := _) rfl rfl rfl rfl) rfl ?_
    refine w_nil ?_
    refine q_then (hK20 _ _ ?_)
    refine w_condF rfl rfl ?_
    refine w_exit ?_
    refine q_then_exit ?_
    refine q_then_exit ?_
    refine q_blk_this ?_
    refine q_then (hK11 _ _ ?_)
    refine w_seq (fun K50 hK49 => ?_)
    refine w_seq (fun K52 hK51 => ?_)
    refine w_region ?_
    refine w_pure want_none (y_move (v := .int _ _) rfl rfl) rfl ?_
    refine w_pure want_none (y_eql rfl rfl rfl rfl) rfl ?_
    refine w_pure want_none (y_move (v := .bool _) rfl rfl) rfl ?_
    refine w_split (fun h53 => ?_) (fun h53 => ?_)
    ·
     try simp only [Bool.not_eq_true', Bool.not_eq_false', decide_eq_true_eq, decide_eq_false_iff_not, Int.not_lt, Int.not_le] at h53
     refine w_pure (want_yes rfl rfl rfl) (y_move (v := .slice _ _ _) rfl rfl) rfl ?_
     refine w_pure (want_yes rfl rfl rfl) (y_fieldAddr (o := 1) (i := 1) Try.underlying26 rfl Try.sizeOf23 rfl rfl rfl) rfl ?_
     refine w_pure (want_yes rfl rfl rfl) (y_load1 Try.isAgg23 hs rfl rfl (ats_own (i := 0) (vs := [_]) rfl rfl)) rfl ?_
     refine w_pure (want_yes rfl rfl rfl) (y_lenS Try.underlying23 rfl rfl) rfl ?_
     refine w_call (want_yes rfl rfl rfl) Try.call38 rfl rfl rfl rfl (c38 _ _ l (by omega) hl.cons _ hs) ?_
     rintro _ w55 ⟨rfl, hs56⟩
     refine w_pure (want_yes rfl rfl rfl) (y_not rfl rfl) rfl ?_
     refine w_pure want_none (y_pickT (v := .bool _) rfl rfl rfl rfl) rfl ?_
     refine w_nil ?_
     refine q_then (hK51 _ _ ?_)
     refine w_cond rfl rfl (fun h57 => ?_) (fun h57 => ?_)
     ·
      try simp only [Bool.not_eq_true', Bool.not_eq_false', decide_eq_true_eq, decide_eq_false_iff_not, Int.not_lt, Int.not_le] at h57
      refine w_region ?_
      refine w_pure want_none (y_assign (v := _) rfl rfl) rfl ?_
      refine w_nil ?_
      refine q_then (hK49 _ _ ?_)
      refine w_seq (fun K59 hK58 => ?_)
      refine w_region ?_
      refine w_pure want_none (y_move (v := .int _ _) rfl rfl) rfl ?_
      refine w_pure want_none (y_assign (v := .int _ _) rfl rfl) rfl ?_
      refine w_nil ?_
      refine q_then (hK58 _ _ ?_)
      refine w_ret ?_
      refine q_ret (l := [.tmp 4]) (vs := [_]) rfl ⟨⟨rfl, show _ = (.int _ _ : Value) from rfl⟩, trivial⟩ ?_
      have hst : askTo m l l.length = askTo m l i := (by by_cases h0 : askTo m l i = 0; (have hil : i = l.length := (by omega); rw [hil]); exact askTo_stop hia h0)
      first
        | exact ⟨congrArg (Value.int .i64) (by unfold askedE; rw [if_pos ⟨by rw [hst]; assumption, by assumption⟩]), hs56.tail⟩
        | exact ⟨congrArg (Value.int .i64) (by unfold askedE; rw [if_neg (fun h => by first | (have h8 := h.1; rw [hst] at h8; contradiction) | (have h9 := h.2; simp_all)), hst]), hs56.tail⟩
     ·
      try simp only [Bool.not_eq_true', Bool.not_eq_false', decide_eq_true_eq, decide_eq_false_iff_not, Int.not_lt, Int.not_le] at h57
      refine w_skip ?_
      refine q_then (hK49 _ _ ?_)
      refine w_seq (fun K61 hK60 => ?_)
      refine w_region ?_
      refine w_pure want_none (y_move (v := .int _ _) rfl rfl) rfl ?_
      refine w_pure want_none (y_assign (v := .int _ _) rfl rfl) rfl ?_
      refine w_nil ?_
      refine q_then (hK60 _ _ ?_)
      refine w_ret ?_
      refine q_ret (l := [.tmp 4]) (vs := [_]) rfl ⟨⟨rfl, show _ = (.int _ _ : Value) from rfl⟩, trivial⟩ ?_
      have hst : askTo m l l.length = askTo m l i := (by by_cases h0 : askTo m l i = 0; (have hil : i = l.length := (by omega); rw [hil]); exact askTo_stop hia h0)
      first
        | exact ⟨congrArg (Value.int .i64) (by unfold askedE; rw [if_pos ⟨by rw [hst]; assumption, by assumption⟩]), hs56.tail⟩
        | exact ⟨congrArg (Value.int .i64) (by unfold askedE; rw [if_neg (fun h => by first | (have h8 := h.1; rw [hst] at h8; contradiction) | (have h9 := h.2; simp_all)), hst]), hs56.tail⟩
    ·
     try simp only [Bool.not_eq_true', Bool.not_eq_false', decide_eq_true_eq, decide_eq_false_iff_not, Int.not_lt, Int.not_le] at h53
     refine w_skipop rfl rfl rfl ?_
     refine w_skipop rfl rfl rfl ?_
     refine w_skipop rfl rfl rfl ?_
     refine w_skipop rfl rfl rfl ?_
     refine w_skipop rfl rfl rfl ?_
     refine w_skipop rfl rfl rfl ?_
     refine w_pure want_none (y_pickF (v := _) rfl rfl rfl rfl) rfl ?_
     refine w_nil ?_
     refine q_then (hK51 _ _ ?_)
     refine w_condF rfl rfl ?_
     refine w_skip ?_
     refine q_then (hK49 _ _ ?_)
     refine w_seq (fun K63 hK62 => ?_)
     refine w_region ?_
     refine w_pure want_none (y_move (v := .int _ _) rfl rfl) rfl ?_
     refine w_pure want_none (y_assign (v := .int _ _) rfl rfl) rfl ?_
     refine w_nil ?_
     refine q_then (hK62 _ _ ?_)
     refine w_ret ?_
     refine q_ret (l := [.tmp 4]) (vs := [_]) rfl ⟨⟨rfl, show _ = (.int _ _ : Value) from rfl⟩, trivial⟩ ?_
     have hst : askTo m l l.length = askTo m l i := (by by_cases h0 : askTo m l i = 0; (have hil : i = l.length := (by omega); rw [hil]); exact askTo_stop hia h0)
     first
       | exact ⟨congrArg (Value.int .i64) (by unfold askedE; rw [if_pos ⟨by rw [hst]; assumption, by assumption⟩]), hs.tail⟩
       | exact ⟨congrArg (Value.int .i64) (by unfold askedE; rw [if_neg (fun h => by first | (have h8 := h.1; rw [hst] at h8; contradiction) | (have h9 := h.2; simp_all)), hst]), hs.tail⟩

theorem c23 {w0 w : World} {F : List (Nat × Obj)} (m : Market) (p : At3) (hm : MIn w0 F m p) (al : Option Addr) (cl : Nat) (l : List Int) (hll : l.length ≤ 9223372036854775807) (hl : Sl w0 F al 1 (l.map fun x => [Value.int .i64 x]))  (hs : St w0 w F) :
  Con Try.prog 23 [.agg (m.cells p).toArray, .slice al l.length cl] w fun v w' => v = .tuple #[.int .i64 (canR m l).1, .int .i64 (canR m l).2] ∧ St w0 w' F := by
  refine con_of_wc (n := 26) Try.func23 rfl rfl (Nat.le_of_ble_eq_true rfl) ?_
  refine w_seq (fun K2 hK1 => ?_)
  refine w_region ?_
  refine w_box (v := .agg #[.slice _ _ _, .slice _ _ _, .slice _ _ _]) (cs := [_, _, _]) want_none rfl rfl rfl hs (fun b3 w4 hs5 => ?_)
  refine w_pure want_none (y_assign (v := _) rfl rfl) rfl ?_
  refine w_pure want_none (y_assign (v := _) rfl rfl) rfl ?_
  refine w_nil ?_
  refine q_then (hK1 _ _ ?_)
  refine w_seq (fun K7 hK6 => ?_)
  have hbx : Ats w0 ((b3, blk 26 (m.cells p)) :: F) b3 0 (m.cells p) := ats_own (i := 0) (vs := m.cells p) rfl rfl
  refine w_region ?_
  refine w_pure want_none (y_loadN (vs := [_, _, _]) Try.isAgg26 Try.sizeOf26 hs5 rfl rfl hbx) rfl ?_
  refine w_pure want_none (y_move (v := .slice _ _ _) rfl rfl) rfl ?_
  refine w_call want_none Try.call69 rfl rfl rfl rfl (c69 m _ hm.cons _ _ l hll hl.cons hs5) ?_
  rintro _ w9 ⟨rfl, hs10⟩
  refine w_pure want_none (y_assign (v := .int _ _) rfl rfl) rfl ?_
  refine w_nil ?_
  refine q_then (hK6 _ _ ?_)
  refine w_seq (fun K12 hK11 => ?_)
  refine w_seq (fun K14 hK13 => ?_)
  refine w_region ?_
  refine w_pure want_none (y_move (v := .int _ _) rfl rfl) rfl ?_
  refine w_pure want_none (y_neq rfl rfl rfl rfl) rfl ?_
  refine w_nil ?_
  refine q_then (hK13 _ _ ?_)
  refine w_cond rfl rfl (fun h15 => ?_) (fun h15 => ?_)
  ·
   try simp only [Bool.not_eq_true', Bool.not_eq_false', decide_eq_true_eq, decide_eq_false_iff_not, Int.not_lt, Int.not_le] at h15
   refine w_seq (fun K17 hK16 => ?_)
   refine w_region ?_
   refine w_pure want_none (y_move (v := .int _ _) rfl rfl) rfl ?_
   refine w_pure want_none (y_assign (v := _) rfl rfl) rfl ?_
   refine w_pure want_none (y_assign (v := .int _ _) rfl rfl) rfl ?_
   refine w_nil ?_
   refine q_then (hK16 _ _ ?_)
   refine w_ret ?_
   refine q_then_ret ?_
   refine q_ret (l := [.tmp 4, .tmp 5]) (vs := [_, _]) rfl ⟨⟨rfl, show _ = (.int _ _ : Value) from rfl⟩, ⟨rfl, show _ = (.int _ _ : Value) from rfl⟩, trivial⟩ ?_
   exact ⟨by simp [canR, retV, h15], hs10.tail⟩
  ·
   try simp only [Bool.not_eq_true', Bool.not_eq_false', decide_eq_true_eq, decide_eq_false_iff_not, Int.not_lt, Int.not_le] at h15
   refine w_skip ?_
   refine q_then (hK11 _ _ ?_)
   refine w_seq (fun K19 hK18 => ?_)
   refine w_block ?_
   refine w_seq (fun K21 hK20 => ?_)
   have hask : askedE m l = 0 := by assumption
   obtain ⟨hck, hlb, hri⟩ := askedE_chk hask
   have hok := check_ok hck
   have hal := asked_len hask
   have hls := hok.ls
   refine w_draw [] [(0, 1), (1, 1), (3, 0), (2, 2), (4, 2), (5, 0)] Try_mo (by kernel_rfl) hs10 (fun w22 hs23 => ?_)
   refine d_take rfl want_none rfl hs23 (fun _ hq => (y_loadN (vs := [_, _, _]) Try.isAgg26 Try.sizeOf26 hq rfl rfl hbx)) ?_
   refine d_take rfl want_none rfl hs23 (fun _ hq => (y_loadN (vs := [_, _, _]) Try.isAgg26 Try.sizeOf26 hq rfl rfl hbx)) ?_
   refine d_any rfl want_none rfl (fun _ => (y_move (v := .slice _ _ _) rfl rfl)) ?_
   refine d_eff rfl ?_
   refine w_call want_none Try.call37 rfl rfl rfl rfl (c37 m _ hm.cons hok  hs23) ?_
   rintro _ w25 ⟨BL, a_BL, c_BL, rfl, hs_BL, hs26⟩
   replace hs26 := (show St _ _ (BL ++ (_ :: F)) from hs26)
   refine w_nil ?_
   refine qn ⟨hs26.drop, ?_⟩
   refine d_eff rfl ?_
   refine w_call want_none Try.call49 rfl rfl rfl rfl (c49 m _ hm.cons.app hok _ _ (leastL m) (List.length_map _) hs_BL.top (leastL_in hok) _ _ l (by omega) hl.cons.app hlb hs26) ?_
   rintro _ w28 ⟨rfl, hs29⟩
   refine w_nil ?_
   refine qn ⟨hs29.drop, ?_⟩
   refine d_any rfl want_none rfl (fun _ => (y_assign (v := .bool _) rfl rfl)) ?_
   refine d_nil ?_
   refine q_then (hK20 _ _ ?_)
   refine w_cond rfl rfl (fun h30 => ?_) (fun h30 => ?_)
   ·
    try simp only [Bool.not_eq_true', Bool.not_eq_false', decide_eq_true_eq, decide_eq_false_iff_not, Int.not_lt, Int.not_le] at h30
    refine w_seq (fun K32 hK31 => ?_)
    refine w_region ?_
    refine w_pure want_none (y_assign (v := _) rfl rfl) rfl ?_
    refine w_pure want_none (y_assign (v := _) rfl rfl) rfl ?_
    refine w_nil ?_
    refine q_then (hK31 _ _ ?_)
    refine w_ret ?_
    refine q_blk_ret ?_
    refine q_then_ret ?_
    refine q_ret (l := [.tmp 4, .tmp 5]) (vs := [_, _]) rfl ⟨⟨rfl, show _ = (.int _ _ : Value) from rfl⟩, ⟨rfl, show _ = (.int _ _ : Value) from rfl⟩, trivial⟩ ?_
    exact ⟨by simp [canR, retV, h15, h30], hs29.drop.tail⟩
   ·
    try simp only [Bool.not_eq_true', Bool.not_eq_false', decide_eq_true_eq, decide_eq_false_iff_not, Int.not_lt, Int.not_le] at h30
    refine w_seq (fun K34 hK33 => ?_)
    refine w_draw [] [(0, 1), (1, 1), (3, 0), (2, 2), (4, 2), (5, 0), (6, 0)] Try_mo (by kernel_rfl) hs29 (fun w35 hs36 => ?_)
    refine d_take rfl want_none rfl hs36 (fun _ hq => (y_loadN (vs := [_, _, _]) Try.isAgg26 Try.sizeOf26 hq.drop rfl rfl hbx)) ?_
    refine d_take rfl want_none rfl hs36 (fun _ hq => (y_loadN (vs := [_, _, _]) Try.isAgg26 Try.sizeOf26 hq.drop rfl rfl hbx)) ?_
    refine d_any rfl want_none rfl (fun _ => (y_move (v := .slice _ _ _) rfl rfl)) ?_
    refine d_eff rfl ?_
    refine w_call want_none Try.call47 rfl rfl rfl rfl (c47 m _ hm.cons.app hok  hs36) ?_
    rintro _ w38 ⟨BM, a_BM, c_BM, rfl, hs_BM, hs39⟩
    replace hs39 := (show St _ _ (BM ++ (BL ++ (_ :: F))) from hs39)
    refine w_nil ?_
    refine qn ⟨hs39.drop, ?_⟩
    refine d_eff rfl ?_
    refine w_call want_none Try.call49 rfl rfl rfl rfl (c49 m _ hm.cons.app.app hok _ _ (mostL m) (List.length_map _) hs_BM.top (mostL_in hok) _ _ l (by omega) hl.cons.app.app hlb hs39) ?_
    rintro _ w41 ⟨rfl, hs42⟩
    refine w_nil ?_
    refine qn ⟨hs42.drop, ?_⟩
    refine d_any rfl want_none rfl (fun _ => (y_not rfl rfl)) ?_
    refine d_any rfl want_none rfl (fun _ => (y_assign (v := .bool _) rfl rfl)) ?_
    refine d_nil ?_
    refine q_then (hK33 _ _ ?_)
    refine w_cond rfl rfl (fun h43 => ?_) (fun h43 => ?_)
    ·
     try simp only [Bool.not_eq_true', Bool.not_eq_false', decide_eq_true_eq, decide_eq_false_iff_not, Int.not_lt, Int.not_le] at h43
     refine w_seq (fun K45 hK44 => ?_)
     refine w_region ?_
     refine w_pure want_none (y_assign (v := _) rfl rfl) rfl ?_
     refine w_pure want_none (y_assign (v := _) rfl rfl) rfl ?_
     refine w_nil ?_
     refine q_then (hK44 _ _ ?_)
     refine w_ret ?_
     refine q_blk_ret ?_
     refine q_then_ret ?_
     refine q_ret (l := [.tmp 4, .tmp 5]) (vs := [_, _]) rfl ⟨⟨rfl, show _ = (.int _ _ : Value) from rfl⟩, ⟨rfl, show _ = (.int _ _ : Value) from rfl⟩, trivial⟩ ?_
     exact ⟨by simp [canR, retV, h15, h30, h43], hs42.drop.drop.tail⟩
    ·
     try simp only [Bool.not_eq_true', Bool.not_eq_false', decide_eq_true_eq, decide_eq_false_iff_not, Int.not_lt, Int.not_le] at h43
     refine w_skip ?_
     refine q_blk_normal ?_
     refine q_then (hK18 _ _ ?_)
     refine w_seq (fun K47 hK46 => ?_)
     refine w_region ?_
     refine w_pure want_none (y_assign (v := _) rfl rfl) rfl ?_
     refine w_pure want_none (y_assign (v := _) rfl rfl) rfl ?_
     refine w_nil ?_
     refine q_then (hK46 _ _ ?_)
     refine w_ret ?_
     refine q_ret (l := [.tmp 4, .tmp 5]) (vs := [_, _]) rfl ⟨⟨rfl, show _ = (.int _ _ : Value) from rfl⟩, ⟨rfl, show _ = (.int _ _ : Value) from rfl⟩, trivial⟩ ?_
     exact ⟨by simp [canR, retV, h15, h30, h43], hs42.drop.drop.tail⟩

theorem c25 {w0 w : World} {F : List (Nat × Obj)} (m : Market) (p : At3) (hm : MIn w0 F m p) (al : Option Addr) (cl : Nat) (l : List Int) (hll : l.length ≤ 9223372036854775807) (hl : Sl w0 F al 1 (l.map fun x => [Value.int .i64 x]))  (hs : St w0 w F) :
  Con Try.prog 25 [.agg (m.cells p).toArray, .slice al l.length cl] w fun v w' => ∃ B a c, v = .tuple #[.slice a (proofR m l).1.length c, .int .i64 (proofR m l).2.1, .int .i64 (proofR m l).2.2] ∧ Sl w0 B a 1 ((proofR m l).1.map fun x => [Value.int .i64 x]) ∧ St w0 w' (B ++ F) := by
  refine con_of_wc (n := 30) Try.func25 rfl rfl (Nat.le_of_ble_eq_true rfl) ?_
  refine w_seq (fun K2 hK1 => ?_)
  refine w_region ?_
  refine w_box (v := .agg #[.slice _ _ _, .slice _ _ _, .slice _ _ _]) (cs := [_, _, _]) want_none rfl rfl rfl hs (fun b3 w4 hs5 => ?_)
  refine w_pure want_none (y_assign (v := _) rfl rfl) rfl ?_
  refine w_pure want_none (y_assign (v := _) rfl rfl) rfl ?_
  refine w_pure want_none (y_assign (v := _) rfl rfl) rfl ?_
  refine w_nil ?_
  refine q_then (hK1 _ _ ?_)
  refine w_seq (fun K7 hK6 => ?_)
  have hbx : Ats w0 ((b3, blk 26 (m.cells p)) :: F) b3 0 (m.cells p) := ats_own (i := 0) (vs := m.cells p) rfl rfl
  refine w_region ?_
  refine w_pure want_none (y_loadN (vs := [_, _, _]) Try.isAgg26 Try.sizeOf26 hs5 rfl rfl hbx) rfl ?_
  refine w_pure want_none (y_move (v := .slice _ _ _) rfl rfl) rfl ?_
  refine w_call want_none Try.call69 rfl rfl rfl rfl (c69 m _ hm.cons _ _ l hll hl.cons hs5) ?_
  rintro _ w9 ⟨rfl, hs10⟩
  refine w_pure want_none (y_assign (v := .int _ _) rfl rfl) rfl ?_
  refine w_nil ?_
  refine q_then (hK6 _ _ ?_)
  refine w_seq (fun K12 hK11 => ?_)
  refine w_seq (fun K14 hK13 => ?_)
  refine w_region ?_
  refine w_pure want_none (y_move (v := .int _ _) rfl rfl) rfl ?_
  refine w_pure want_none (y_neq rfl rfl rfl rfl) rfl ?_
  refine w_nil ?_
  refine q_then (hK13 _ _ ?_)
  refine w_cond rfl rfl (fun h15 => ?_) (fun h15 => ?_)
  ·
   try simp only [Bool.not_eq_true', Bool.not_eq_false', decide_eq_true_eq, decide_eq_false_iff_not, Int.not_lt, Int.not_le] at h15
   refine w_seq (fun K17 hK16 => ?_)
   refine w_region ?_
   refine w_pure want_none (y_move (v := .int _ _) rfl rfl) rfl ?_
   refine w_pure want_none (y_assign (v := _) rfl rfl) rfl ?_
   refine w_pure want_none (y_assign (v := _) rfl rfl) rfl ?_
   refine w_pure want_none (y_assign (v := .int _ _) rfl rfl) rfl ?_
   refine w_nil ?_
   refine q_then (hK16 _ _ ?_)
   refine w_ret ?_
   refine q_then_ret ?_
   refine q_ret (l := [.tmp 4, .tmp 5, .tmp 6]) (vs := [_, _, _]) rfl ⟨⟨rfl, show _ = (.slice _ _ _ : Value) from rfl⟩, ⟨rfl, show _ = (.int _ _ : Value) from rfl⟩, ⟨rfl, show _ = (.int _ _ : Value) from rfl⟩, trivial⟩ ?_
   first
     | (have hq : proofR m l = ([], 0, askedE m l) := by unfold proofR; rw [if_pos (by assumption)]
        exact ⟨[], none, 0, by rw [hq]; rfl, by rw [hq]; exact Sl.nil _ _, hs10.tail⟩)
     | (have hq : proofR m l = ([], 0, 9) := by unfold proofR; rw [if_neg (by simp [hask]), if_pos (by assumption)]
        exact ⟨[], none, 0, by rw [hq]; rfl, by rw [hq]; exact Sl.nil _ _, hs10.tail⟩)
     | (have hq : proofR m l = ((worstR m (leastL m) (wantsL m) l 0).1, (worstR m (leastL m) (wantsL m) l 0).2, 0) := by unfold proofR; rw [if_neg (by simp [hask]), if_neg (by assumption)]
        exact ⟨BX ++ (BW ++ (BL ++ [_])), aX, cX, by rw [hq]; rfl, by rw [hq]; exact hsX.top, by simp only [List.append_assoc]; exact hs10⟩)
  ·
   try simp only [Bool.not_eq_true', Bool.not_eq_false', decide_eq_true_eq, decide_eq_false_iff_not, Int.not_lt, Int.not_le] at h15
   refine w_skip ?_
   refine q_then (hK11 _ _ ?_)
   refine w_seq (fun K19 hK18 => ?_)
   have hask : askedE m l = 0 := by assumption
   obtain ⟨hck, hlb, hri⟩ := askedE_chk hask
   have hok := check_ok hck
   have hal := asked_len hask
   have hls := hok.ls
   refine w_draw [] [(0, 1), (1, 1), (3, 1), (5, 0), (2, 2), (4, 2), (6, 2), (7, 0), (8, 0), (9, 0), (10, 0), (11, 0)] Try_mo (by kernel_rfl) hs10 (fun w20 hs21 => ?_)
   refine d_take rfl want_none rfl hs21 (fun _ hq => (y_loadN (vs := [_, _, _]) Try.isAgg26 Try.sizeOf26 hq rfl rfl hbx)) ?_
   refine d_take rfl want_none rfl hs21 (fun _ hq => (y_loadN (vs := [_, _, _]) Try.isAgg26 Try.sizeOf26 hq rfl rfl hbx)) ?_
   refine d_take rfl want_none rfl hs21 (fun _ hq => (y_loadN (vs := [_, _, _]) Try.isAgg26 Try.sizeOf26 hq rfl rfl hbx)) ?_
   refine d_any rfl want_none rfl (fun _ => (y_move (v := .slice _ _ _) rfl rfl)) ?_
   refine d_eff rfl ?_
   refine w_call want_none Try.call37 rfl rfl rfl rfl (c37 m _ hm.cons hok  hs21) ?_
   rintro _ w23 ⟨BL, a_BL, c_BL, rfl, hs_BL, hs24⟩
   replace hs24 := (show St _ _ (BL ++ (_ :: F)) from hs24)
   refine w_nil ?_
   refine qn ⟨hs24.drop, ?_⟩
   refine d_eff rfl ?_
   refine w_call want_none Try.call72 rfl rfl rfl rfl (c72 m _ hm.cons.app hok  hs24) ?_
   rintro _ w26 ⟨BW, a_BW, c_BW, rfl, hs_BW, hs27⟩
   replace hs27 := (show St _ _ (BW ++ (BL ++ (_ :: F))) from hs27)
   refine w_nil ?_
   refine qn ⟨hs27.drop.drop, ?_⟩
   refine d_eff rfl ?_
   refine w_call want_none Try.call71 rfl rfl rfl rfl (c71 m _ hm.cons.app.app hok _ _ (leastL m) (List.length_map _) hs_BL.top.app (leastL_in hok) _ _ (wantsL m) (List.length_map _) hs_BW.top (wantsL_in hok) _ _ l (by omega) hl.cons.app.app hlb 0 (Nat.zero_le _) hs27) ?_
   rintro _ w29 ⟨BX, aX, cX, rfl, hsX, hs30⟩
   replace hs30 := (show St _ _ (BX ++ (BW ++ (BL ++ (_ :: F)))) from hs30)
   refine w_nil ?_
   refine qn ⟨hs30.drop.drop.drop, ?_⟩
   refine d_any rfl want_none rfl (fun _ => (y_move (v := .tuple _) rfl rfl)) ?_
   refine d_any rfl want_none rfl (fun _ => (y_extract (v := .slice _ _ _) rfl rfl rfl)) ?_
   refine d_any rfl want_none rfl (fun _ => (y_extract (v := .int _ _) rfl rfl rfl)) ?_
   refine d_any rfl want_none rfl (fun _ => (y_assign (v := .slice _ _ _) rfl rfl)) ?_
   refine d_any rfl want_none rfl (fun _ => (y_assign (v := .int _ _) rfl rfl)) ?_
   refine d_nil ?_
   refine q_then (hK18 _ _ ?_)
   refine w_seq (fun K32 hK31 => ?_)
   refine w_seq (fun K34 hK33 => ?_)
   refine w_region ?_
   refine w_pure want_none (y_move (v := .int _ _) rfl rfl) rfl ?_
   refine w_pure want_none (y_eql rfl rfl rfl rfl) rfl ?_
   refine w_nil ?_
   refine q_then (hK33 _ _ ?_)
   refine w_cond rfl rfl (fun h35 => ?_) (fun h35 => ?_)
   ·
    try simp only [Bool.not_eq_true', Bool.not_eq_false', decide_eq_true_eq, decide_eq_false_iff_not, Int.not_lt, Int.not_le] at h35
    refine w_seq (fun K37 hK36 => ?_)
    refine w_region ?_
    refine w_pure want_none (y_assign (v := _) rfl rfl) rfl ?_
    refine w_pure want_none (y_assign (v := _) rfl rfl) rfl ?_
    refine w_pure want_none (y_assign (v := _) rfl rfl) rfl ?_
    refine w_nil ?_
    refine q_then (hK36 _ _ ?_)
    refine w_ret ?_
    refine q_then_ret ?_
    refine q_ret (l := [.tmp 4, .tmp 5, .tmp 6]) (vs := [_, _, _]) rfl ⟨⟨rfl, show _ = (.slice _ _ _ : Value) from rfl⟩, ⟨rfl, show _ = (.int _ _ : Value) from rfl⟩, ⟨rfl, show _ = (.int _ _ : Value) from rfl⟩, trivial⟩ ?_
    first
      | (have hq : proofR m l = ([], 0, askedE m l) := by unfold proofR; rw [if_pos (by assumption)]
         exact ⟨[], none, 0, by rw [hq]; rfl, by rw [hq]; exact Sl.nil _ _, hs30.drop.drop.drop.tail⟩)
      | (have hq : proofR m l = ([], 0, 9) := by unfold proofR; rw [if_neg (by simp [hask]), if_pos (by assumption)]
         exact ⟨[], none, 0, by rw [hq]; rfl, by rw [hq]; exact Sl.nil _ _, hs30.drop.drop.drop.tail⟩)
      | (have hq : proofR m l = ((worstR m (leastL m) (wantsL m) l 0).1, (worstR m (leastL m) (wantsL m) l 0).2, 0) := by unfold proofR; rw [if_neg (by simp [hask]), if_neg (by assumption)]
         exact ⟨BX ++ (BW ++ (BL ++ [_])), aX, cX, by rw [hq]; rfl, by rw [hq]; exact hsX.top, by simp only [List.append_assoc]; exact hs30⟩)
   ·
    try simp only [Bool.not_eq_true', Bool.not_eq_false', decide_eq_true_eq, decide_eq_false_iff_not, Int.not_lt, Int.not_le] at h35
    refine w_skip ?_
    refine q_then (hK31 _ _ ?_)
    refine w_seq (fun K39 hK38 => ?_)
    refine w_region ?_
    refine w_pure want_none (y_move (v := .slice _ _ _) rfl rfl) rfl ?_
    refine w_pure want_none (y_move (v := .int _ _) rfl rfl) rfl ?_
    refine w_pure want_none (y_assign (v := .slice _ _ _) rfl rfl) rfl ?_
    refine w_pure want_none (y_assign (v := .int _ _) rfl rfl) rfl ?_
    refine w_pure want_none (y_assign (v := _) rfl rfl) rfl ?_
    refine w_nil ?_
    refine q_then (hK38 _ _ ?_)
    refine w_ret ?_
    refine q_ret (l := [.tmp 4, .tmp 5, .tmp 6]) (vs := [_, _, _]) rfl ⟨⟨rfl, show _ = (.slice _ _ _ : Value) from rfl⟩, ⟨rfl, show _ = (.int _ _ : Value) from rfl⟩, ⟨rfl, show _ = (.int _ _ : Value) from rfl⟩, trivial⟩ ?_
    first
      | (have hq : proofR m l = ([], 0, askedE m l) := by unfold proofR; rw [if_pos (by assumption)]
         exact ⟨[], none, 0, by rw [hq]; rfl, by rw [hq]; exact Sl.nil _ _, hs30.drop.drop.drop.tail⟩)
      | (have hq : proofR m l = ([], 0, 9) := by unfold proofR; rw [if_neg (by simp [hask]), if_pos (by assumption)]
         exact ⟨[], none, 0, by rw [hq]; rfl, by rw [hq]; exact Sl.nil _ _, hs30.drop.drop.drop.tail⟩)
      | (have hq : proofR m l = ((worstR m (leastL m) (wantsL m) l 0).1, (worstR m (leastL m) (wantsL m) l 0).2, 0) := by unfold proofR; rw [if_neg (by simp [hask]), if_neg (by assumption)]
         exact ⟨BX ++ (BW ++ (BL ++ [_])), aX, cX, by rw [hq]; rfl, by rw [hq]; exact hsX.top, by simp only [List.append_assoc]; exact hs30⟩)

end Go.Proofs
/- Loads of trains from rooms to shops: if no shops lack anything, there is a load that serves them, train by train. Plain numbers. No conditions. -/
set_option linter.unusedSimpArgs false
set_option linter.unusedVariables false
namespace Go.Rt.Sh
def sumN : Nat → (Nat → Int) → Int
  | 0, _ => 0
  | n + 1, f => sumN n f + f n
structure Tr where
  room : Nat
  shop : Nat
  cap : Int
def capR (T : List Tr) (s : Nat → Bool) (r : Nat) : Int := T.foldr (fun t n => (if t.room = r ∧ s t.shop = true then t.cap else 0) + n) 0
def lk (R S : Nat) (T : List Tr) (h w : Nat → Int) (s : Nat → Bool) : Int := sumN S (fun i => if s i then w i else 0) - sumN R (fun r => min (h r) (capR T s r))
def Sub (a b : Nat → Bool) : Prop := ∀ i, a i = true → b i = true
def NoLack (R S : Nat) (T : List Tr) (h w : Nat → Int) (sh : Nat → Bool) : Prop := ∀ s, Sub s sh → lk R S T h w s ≤ 0
def put (f : Nat → Int) (i : Nat) (v : Int) : Nat → Int := fun j => if j = i then v else f j
theorem sumN_congr {f g : Nat → Int} : ∀ (n : Nat), (∀ i, i < n → f i = g i) → sumN n f = sumN n g
  | 0, _ => rfl
  | n + 1, h => by simp only [sumN]; rw [sumN_congr n fun i hi => h i (by omega), h n (by omega)]
theorem sumN_le {f g : Nat → Int} : ∀ (n : Nat), (∀ i, i < n → f i ≤ g i) → sumN n f ≤ sumN n g
  | 0, _ => by simp [sumN]
  | n + 1, h => by
    simp only [sumN]
    have h1 := sumN_le n fun i hi => h i (by omega)
    have h2 := h n (by omega)
    omega
theorem sumN_add (f g : Nat → Int) : ∀ n, sumN n f + sumN n g = sumN n (fun i => f i + g i)
  | 0 => rfl
  | n + 1 => by simp only [sumN]; have := sumN_add f g n; omega
theorem sumN_zero : ∀ n, sumN n (fun _ => 0) = 0
  | 0 => rfl
  | n + 1 => by simp only [sumN]; rw [sumN_zero n]; rfl
theorem sumN_split (f : Nat → Int) (k : Nat) : ∀ n, k < n → sumN n f = sumN n (fun i => if i = k then 0 else f i) + f k
  | 0, h => by omega
  | n + 1, h => by
    simp only [sumN]
    by_cases e : n = k
    · subst e
      rw [if_pos rfl]
      have : sumN n f = sumN n (fun i => if i = n then 0 else f i) := sumN_congr n fun i hi => by rw [if_neg (by omega)]
      omega
    · rw [if_neg e]
      have := sumN_split f k n (by omega)
      omega
theorem capR_cons (t : Tr) (T : List Tr) (s : Nat → Bool) (r : Nat) : capR (t :: T) s r = (if t.room = r ∧ s t.shop = true then t.cap else 0) + capR T s r := rfl
theorem capR_mono {T : List Tr} (hc : ∀ t ∈ T, 0 ≤ t.cap) {a b : Nat → Bool} (h : Sub a b) (r : Nat) : capR T a r ≤ capR T b r := by
  induction T with
  | nil => simp [capR]
  | cons t T ih =>
    rw [capR_cons, capR_cons]
    have h1 := ih fun t ht => hc t (.tail _ ht)
    have h2 := hc t (.head _)
    by_cases ha : t.room = r ∧ a t.shop = true
    · rw [if_pos ha, if_pos ⟨ha.1, h _ ha.2⟩]; omega
    · rw [if_neg ha]; split <;> omega
theorem capR_nn {T : List Tr} (hc : ∀ t ∈ T, 0 ≤ t.cap) (a : Nat → Bool) (r : Nat) : 0 ≤ capR T a r := by
  induction T with
  | nil => simp [capR]
  | cons t T ih =>
    rw [capR_cons]
    have h1 := ih fun t ht => hc t (.tail _ ht)
    have h2 := hc t (.head _)
    split <;> omega
theorem capR_mod (T : List Tr) (a b : Nat → Bool) (r : Nat) : capR T (fun i => a i || b i) r + capR T (fun i => a i && b i) r = capR T a r + capR T b r := by
  induction T with
  | nil => simp [capR]
  | cons t T ih =>
    simp only [capR_cons]
    by_cases h : t.room = r
    · cases ha : a t.shop <;> cases hb : b t.shop <;> simp [h, ha, hb] <;> omega
    · simp [h]; exact ih
theorem capR_congr {T : List Tr} {a b : Nat → Bool} {r : Nat} (h : ∀ t ∈ T, a t.shop = b t.shop) : capR T a r = capR T b r := by
  induction T with
  | nil => rfl
  | cons t T ih =>
    rw [capR_cons, capR_cons, ih fun t ht => h t (.tail _ ht), h t (.head _)]
theorem lk_split {R S : Nat} {T : List Tr} {h w : Nat → Int} {s : Nat → Bool} {p : Nat} (hp : p < R) : lk R S T h w s = sumN S (fun i => if s i then w i else 0) - sumN R (fun r => if r = p then 0 else min (h r) (capR T s r)) - min (h p) (capR T s p) := by
  unfold lk
  rw [sumN_split _ p R hp]
  omega
/-- What all but one room give. -/
def rst (R : Nat) (T : List Tr) (h : Nat → Int) (p : Nat) (s : Nat → Bool) : Int := sumN R (fun r => if r = p then 0 else min (h r) (capR T s r))
def wsum (S : Nat) (w : Nat → Int) (s : Nat → Bool) : Int := sumN S (fun i => if s i then w i else 0)
theorem lk_eq {R S : Nat} {T : List Tr} {h w : Nat → Int} {s : Nat → Bool} {p : Nat} (hp : p < R) : lk R S T h w s = wsum S w s - rst R T h p s - min (h p) (capR T s p) := lk_split hp
theorem rst_cons {R : Nat} {t : Tr} {T : List Tr} {h : Nat → Int} {s : Nat → Bool} : rst R (t :: T) h t.room s = rst R T h t.room s := by
  unfold rst
  refine sumN_congr R fun r _ => ?_
  by_cases e : r = t.room
  · rw [if_pos e, if_pos e]
  · rw [if_neg e, if_neg e, capR_cons, if_neg (fun hh => e hh.1.symm)]; simp
theorem rst_put {R : Nat} {T : List Tr} {h : Nat → Int} {p : Nat} {s : Nat → Bool} (v : Int) : rst R T (put h p v) p s = rst R T h p s := by
  unfold rst
  refine sumN_congr R fun r _ => ?_
  by_cases e : r = p
  · rw [if_pos e, if_pos e]
  · rw [if_neg e, if_neg e]; unfold put; rw [if_neg e]
theorem rst_sub {R : Nat} {T : List Tr} {h : Nat → Int} (hc : ∀ t ∈ T, 0 ≤ t.cap) (p : Nat) (a b : Nat → Bool) : rst R T h p (fun i => a i || b i) + rst R T h p (fun i => a i && b i) ≤ rst R T h p a + rst R T h p b := by
  unfold rst
  rw [sumN_add, sumN_add]
  refine sumN_le R fun r _ => ?_
  by_cases e : r = p
  · simp [e]
  · simp only [if_neg e]
    have h1 := capR_mod T a b r
    have h2 := capR_mono (r := r) hc (a := fun i => a i && b i) (b := a) (fun i hi => by simp at hi; exact hi.1)
    have h3 := capR_mono (r := r) hc (a := fun i => a i && b i) (b := b) (fun i hi => by simp at hi; exact hi.2)
    omega
theorem rst_mono {R : Nat} {T : List Tr} {h : Nat → Int} (hc : ∀ t ∈ T, 0 ≤ t.cap) (p : Nat) {a b : Nat → Bool} (hs : Sub a b) : rst R T h p a ≤ rst R T h p b := by
  unfold rst
  refine sumN_le R fun r _ => ?_
  by_cases e : r = p
  · simp [e]
  · simp only [if_neg e]
    have := capR_mono (r := r) hc hs
    omega
theorem wsum_mod (S : Nat) (w : Nat → Int) (a b : Nat → Bool) : wsum S w (fun i => a i || b i) + wsum S w (fun i => a i && b i) = wsum S w a + wsum S w b := by
  unfold wsum
  rw [sumN_add, sumN_add]
  refine sumN_congr S fun i _ => ?_
  cases ha : a i <;> cases hb : b i <;> simp [ha, hb]
theorem wsum_put {S : Nat} {w : Nat → Int} {s : Nat → Bool} {q : Nat} (hq : q < S) (n : Int) : wsum S (put w q (w q - n)) s = wsum S w s - (if s q then n else 0) := by
  unfold wsum
  rw [sumN_split _ q S hq, sumN_split (fun i => if s i then w i else 0) q S hq]
  have : sumN S (fun i => if i = q then 0 else if s i then put w q (w q - n) i else 0) = sumN S (fun i => if i = q then 0 else if s i then w i else 0) := sumN_congr S fun i _ => by
    by_cases e : i = q
    · simp [e]
    · simp [e, put]
  rw [this]
  unfold put
  simp only [if_true]
  split <;> omega
theorem wsum_del {S : Nat} {w : Nat → Int} {s : Nat → Bool} {q : Nat} (hq : q < S) (hs : s q = true) : wsum S w s = wsum S w (fun i => s i && !Nat.beq i q) + w q := by
  unfold wsum
  rw [sumN_split _ q S hq, sumN_split (fun i => if s i && !Nat.beq i q then w i else 0) q S hq]
  have : sumN S (fun i => if i = q then 0 else if s i then w i else 0) = sumN S (fun i => if i = q then 0 else if s i && !Nat.beq i q then w i else 0) := sumN_congr S fun i _ => by
    by_cases e : i = q
    · simp [e]
    · have : Nat.beq i q = false := by cases hb : Nat.beq i q; rfl; exact absurd (Nat.eq_of_beq_eq_true hb) e
      simp [e, this]
  rw [this]
  simp [hs]
/-- One train: if no shops lack anything, it can carry so many that none lack anything behind it. -/
theorem one_train {R S : Nat} {t : Tr} {T : List Tr} {h w : Nat → Int} {sh : Nat → Bool} (hr : t.room < R) (hs : t.shop < S) (hc : 0 ≤ t.cap) (hT : ∀ t ∈ T, 0 ≤ t.cap) (hh : ∀ r, 0 ≤ h r) (hw : ∀ i, 0 ≤ w i)
    (hsh : sh t.shop = true) (hn : NoLack R S (t :: T) h w sh) : ∃ n : Nat, (n : Int) ≤ t.cap ∧ (n : Int) ≤ h t.room ∧ (n : Int) ≤ w t.shop ∧ NoLack R S T (put h t.room (h t.room - n)) (put w t.shop (w t.shop - n)) sh := by
  have hT' : ∀ u ∈ t :: T, 0 ≤ u.cap := by
    intro u hu
    cases hu with
    | head => exact hc
    | tail _ hu => exact hT u hu
  -- what is known of each set
  have base : ∀ s, Sub s sh → wsum S w s - rst R T h t.room s ≤ h t.room ∧ wsum S w s - rst R T h t.room s ≤ (if s t.shop = true then t.cap else 0) + capR T s t.room := by
    intro s hss
    have h1 := hn s hss
    rw [lk_eq hr, rst_cons, capR_cons] at h1
    by_cases e : s t.shop = true
    · rw [if_pos ⟨rfl, e⟩] at h1; rw [if_pos e]; omega
    · rw [if_neg (fun hh => e hh.2)] at h1; rw [if_neg e]; omega
  -- the least number
  let Q : Nat → Prop := fun n => ∀ s, Sub s sh → s t.shop = true → wsum S w s - rst R T h t.room s - capR T s t.room ≤ (n : Int)
  have hQ : ∃ n, Q n := ⟨t.cap.toNat, fun s hss e => by
    have := (base s hss).2
    rw [if_pos e] at this
    omega⟩
  obtain ⟨n, hQn, hmin⟩ : ∃ n, Q n ∧ ∀ m, m < n → ¬ Q m := by
    obtain ⟨k, hk⟩ := hQ
    have key : ∀ k, Q k → ∃ n, Q n ∧ ∀ m, m < n → ¬ Q m := by
      intro k
      induction k using Nat.strongRecOn with
      | _ k ih =>
        intro hk
        by_cases hex : ∃ m, m < k ∧ Q m
        · obtain ⟨m, hm, hq⟩ := hex; exact ih m hm hq
        · exact ⟨k, hk, fun m hm hq => hex ⟨m, hm, hq⟩⟩
    exact key k hk
  -- a set that makes it the least
  have hA : n = 0 ∨ ∃ A, Sub A sh ∧ A t.shop = true ∧ wsum S w A - rst R T h t.room A - capR T A t.room = (n : Int) := by
    by_cases h0 : n = 0
    · exact .inl h0
    · right
      have := hmin (n - 1) (by omega)
      simp only [Q] at this
      have ⟨A, hA⟩ := Classical.not_forall.1 this
      have ⟨hA1, hA⟩ := Classical.not_forall.1 hA
      have ⟨hA2, hA⟩ := Classical.not_forall.1 hA
      have := hQn A hA1 hA2
      exact ⟨A, hA1, hA2, by omega⟩
  have ncap : (n : Int) ≤ t.cap := by
    rcases hA with rfl | ⟨A, a1, a2, a3⟩
    · simpa using hc
    · have := (base A a1).2; rw [if_pos a2] at this; omega
  have hex : ∀ B, Sub B sh → B t.shop = false → (n : Int) ≤ h t.room - wsum S w B + rst R T h t.room B := by
    intro B hB hB2
    have hb := (base B hB).1
    rcases hA with rfl | ⟨A, a1, a2, a3⟩
    · simp; omega
    · have h1 := wsum_mod S w A B
      have h2 := rst_sub (R := R) (h := h) hT t.room A B
      have h3 := (base (fun i => A i || B i) (fun i hi => by simp at hi; rcases hi with hi | hi; exact a1 i hi; exact hB i hi)).1
      have h4 := (base (fun i => A i && B i) (fun i hi => by simp at hi; exact a1 i hi.1)).2
      rw [if_neg (by simp [hB2])] at h4
      have h5 := capR_mono (r := t.room) hT (a := fun i => A i && B i) (b := A) (fun i hi => by simp at hi; exact hi.1)
      omega
  have nh : (n : Int) ≤ h t.room := by
    have h1 := hex (fun _ => false) (fun i hi => by cases hi) rfl
    have e1 : wsum S w (fun _ => false) = 0 := by unfold wsum; simp [sumN_zero]
    have e2 : rst R T h t.room (fun _ => false) ≤ 0 := by
      have hle : rst R T h t.room (fun _ => false) ≤ sumN R (fun _ => 0) := by
       unfold rst
       refine sumN_le R fun r _ => ?_
       show (if r = t.room then (0 : Int) else min (h r) (capR T (fun _ => false) r)) ≤ 0
       have : capR T (fun _ => false) r = 0 := by
        clear hn hT hT' base hQ hQn hmin hA ncap hex h1
        induction T with
        | nil => rfl
        | cons u T ih => rw [capR_cons, ih]; simp
       rw [this]
       have := hh r
       split <;> omega
      rwa [sumN_zero] at hle
    omega
  have nw : (n : Int) ≤ w t.shop := by
    rcases hA with rfl | ⟨A, a1, a2, a3⟩
    · simpa using hw _
    · have h1 := wsum_del (w := w) hs a2
      have hsub : Sub (fun i => A i && !Nat.beq i t.shop) A := fun i hi => by simp at hi; exact hi.1
      have h2 := (base (fun i => A i && !Nat.beq i t.shop) (fun i hi => a1 i (hsub i hi))).2
      rw [if_neg (by simp)] at h2
      have h3 := rst_mono (R := R) (h := h) hT t.room hsub
      have h4 := capR_mono (r := t.room) hT hsub
      omega
  refine ⟨n, ncap, nh, nw, fun s hss => ?_⟩
  rw [lk_eq hr, rst_put, wsum_put hs]
  have hb := base s hss
  have e : put h t.room (h t.room - n) t.room = h t.room - n := by unfold put; rw [if_pos rfl]
  rw [e]
  by_cases es : s t.shop = true
  · rw [if_pos es] at hb ⊢
    have := hQn s hss es
    omega
  · rw [if_neg es] at hb ⊢
    have := hex s hss (by simpa using es)
    omega
end Go.Rt.Sh
/- Plain laws of the shop layer: what sets lack, as the program and as the reference sum it, is the same; so are the worst sets. No conditions. -/
set_option linter.unusedSimpArgs false
set_option linter.unusedVariables false
namespace Go.Rt.Sh
def toTr (t : Train) : Tr := ⟨t.room.toNat, t.shop.toNat, t.cap⟩
/-- The trains that go, from one on and below another one. -/
def trsTo (m : Market) (fro : Nat) : Nat → List Tr
  | 0 => []
  | i + 1 => match m.trains[i]? with
    | some t => if fro ≤ i ∧ leaves m t = true then trsTo m fro i ++ [toTr t] else trsTo m fro i
    | none => trsTo m fro i
def trs (m : Market) (fro : Nat) : List Tr := trsTo m fro m.trains.length
def bset (b : Nat) : Nat → Bool := fun i => decide (bit b i = 1)
theorem capR_snoc (T : List Tr) (t : Tr) (s : Nat → Bool) (r : Nat) : capR (T ++ [t]) s r = capR T s r + (if t.room = r ∧ s t.shop = true then t.cap else 0) := by
  induction T with
  | nil => simp [capR]
  | cons u T ih => rw [List.cons_append, capR_cons, capR_cons, ih]; omega
theorem bit_or (b j : Nat) : bit b j = 0 ∨ bit b j = 1 := by have := bit_le b j; omega
theorem capsU_capR {m : Market} (hok : m.Ok) (fro b r : Nat) (hr : r < 3) : ∀ i, i ≤ m.trains.length → (capsU m fro b i).getD r 0 = capR (trsTo m fro i) (bset b) r
  | 0, _ => by
    have : r = 0 ∨ r = 1 ∨ r = 2 := by omega
    rcases this with rfl | rfl | rfl <;> rfl
  | i + 1, hi => by
    have ih := capsU_capR hok fro b r hr i (by omega)
    have hil : i < m.trains.length := by omega
    have ht := hok.train _ (List.getElem_mem hil)
    have hlr := hok.lr
    have hl := capsU_len m fro b i
    simp only [trsTo, List.getElem?_eq_getElem hil]
    by_cases h : (i : Int) < (fro : Int) ∨ bit b m.trains[i].shop.toNat = 0 ∨ leaves m m.trains[i] = false
    · rw [capsU_skip hil h, ih]
      by_cases h1 : fro ≤ i ∧ leaves m m.trains[i] = true
      · rw [if_pos h1, capR_snoc]
        have h2 : bit b m.trains[i].shop.toNat = 0 := by
          rcases h with h | h | h
          · omega
          · exact h
          · rw [h1.2] at h; cases h
        rw [if_neg]
        · omega
        · rintro ⟨_, h3⟩
          have h4 : bit b m.trains[i].shop.toNat = 1 := of_decide_eq_true h3
          omega
      · rw [if_neg h1]
    · rw [capsU_add hil h]
      simp only [not_or, Int.not_lt, Bool.not_eq_false] at h
      rw [if_pos ⟨by omega, h.2.2⟩, capR_snoc]
      have hb : bset b m.trains[i].shop.toNat = true := by
        have := bit_or b m.trains[i].shop.toNat
        simp only [bset, decide_eq_true_eq]
        rcases this with h1 | h1
        · exact absurd h1 h.2.1
        · exact h1
      by_cases e : m.trains[i].room.toNat = r
      · rw [if_pos ⟨e, hb⟩, e, getD_set (by omega), ih]; rfl
      · rw [if_neg (fun hh => e hh.1), getD_other e, ih]; omega
theorem hasI_listL (b : Nat) : ∀ (n : Nat) (z : Int), hasI (listL b n) z = true ↔ 0 ≤ z ∧ z < n ∧ bit b z.toNat = 1
  | 0, z => by simp [listL, hasI]; omega
  | n + 1, z => by
    have ih := hasI_listL b n z
    have e : hasI (listL b (n + 1)) z = (hasI (listL b n) z || (decide (bit b n = 1) && decide ((n : Int) = z))) := by
      by_cases h : bit b n = 1
      · simp [hasI, listL, List.any_append, h]
      · simp [hasI, listL, List.any_append, h]
    rw [e, Bool.or_eq_true, ih, Bool.and_eq_true, decide_eq_true_eq, decide_eq_true_eq]
    constructor
    · rintro (h | ⟨h1, rfl⟩)
      · omega
      · refine ⟨by omega, by omega, by simpa using h1⟩
    · rintro ⟨h1, h2, h3⟩
      by_cases hz : z = n
      · right; subst hz; exact ⟨by simpa using h3, rfl⟩
      · left; exact ⟨h1, by omega, h3⟩
theorem capRf_capR {m : Market} (hok : m.Ok) (fro b r : Nat) : ∀ i, i ≤ m.trains.length → capRf m (listL b m.shops.length) fro r i = capR (trsTo m fro i) (bset b) r
  | 0, _ => rfl
  | i + 1, hi => by
    have ih := capRf_capR hok fro b r i (by omega)
    have hil : i < m.trains.length := by omega
    have ht := hok.train _ (List.getElem_mem hil)
    have hh := hasI_listL b m.shops.length m.trains[i].shop
    simp only [trsTo, capRf, List.getElem?_eq_getElem hil]
    by_cases h1 : fro ≤ i ∧ leaves m m.trains[i] = true
    · rw [if_pos h1, capR_snoc, ih]
      by_cases h2 : m.trains[i].room = (r : Int) ∧ bit b m.trains[i].shop.toNat = 1
      · rw [if_pos ⟨h1.1, h2.1, hh.2 ⟨by omega, by omega, h2.2⟩, h1.2⟩, if_pos]
        · rfl
        · exact ⟨by simp only [toTr]; omega, by unfold bset; exact decide_eq_true h2.2⟩
      · rw [if_neg, if_neg]
        · omega
        · rintro ⟨h3, h4⟩
          unfold bset at h4
          simp only [toTr] at h3
          exact h2 ⟨by omega, of_decide_eq_true h4⟩
        · rintro ⟨_, h3, h4, _⟩
          exact h2 ⟨h3, (hh.1 h4).2.2⟩
    · rw [if_neg h1, if_neg, ih]
      rintro ⟨h3, _, _, h4⟩
      exact h1 ⟨h3, h4⟩
theorem wantR_pre (wants l : List Int) (z : Int) : ∀ i, i ≤ l.length → wantR wants (l ++ [z]) i = wantR wants l i
  | 0, _ => rfl
  | i + 1, h => by
    simp only [wantR]
    rw [wantR_pre wants l z i (by omega)]
    congr 3
    simp [List.getD, List.getElem?_append_left (show i < l.length by omega)]
theorem wantR_snoc (wants l : List Int) (z : Int) : wantR wants (l ++ [z]) (l ++ [z]).length = wantR wants l l.length + wants.getD z.toNat 0 := by
  rw [List.length_append, List.length_singleton]
  simp only [wantR]
  rw [wantR_pre wants l z _ (Nat.le_refl _)]
  congr 2
  simp [List.getD]
theorem wantR_sum (wants : List Int) (b : Nat) : ∀ n, wantR wants (listL b n) (listL b n).length = sumN n (fun i => if bset b i then wants.getD i 0 else 0)
  | 0 => rfl
  | n + 1 => by
    have ih := wantR_sum wants b n
    simp only [sumN]
    by_cases h : bit b n = 1
    · rw [listL_yes h, wantR_snoc, ih]; simp [bset, h]
    · rw [listL_no h, ih]; simp [bset, h]
theorem handR_sum {m : Market} (hok : m.Ok) (hands : List Int) (b fro : Nat) : ∀ n, handR m hands (listL b m.shops.length) fro n = sumN n (fun r => min (hands.getD r 0) (capR (trs m fro) (bset b) r))
  | 0 => rfl
  | n + 1 => by
    have ih := handR_sum hok hands b fro n
    simp only [handR, sumN, ih, capRf_capR hok fro b n _ (Nat.le_refl _)]; rfl
/-- The reference's sum. -/
theorem lackR_lk {m : Market} (hok : m.Ok) (hands wants : List Int) (b fro : Nat) : lackR m hands wants (listL b m.shops.length) fro = lk m.rooms.length m.shops.length (trs m fro) (fun r => hands.getD r 0) (fun i => wants.getD i 0) (bset b) := by
  unfold lackR lk; rw [wantR_sum, handR_sum hok]
theorem wantU_sum (x : List Int) (b : Nat) : ∀ n, wantU x b n = sumN n (fun i => if bset b i then x.getD (3 + i) 0 else 0)
  | 0 => rfl
  | n + 1 => by
    simp only [wantU, sumN, wantU_sum x b n]
    rcases bit_or b n with h | h <;> simp [bset, h]
theorem handU_sum (c x : List Int) (g : Nat → Int) (h : ∀ r < 3, c.getD r 0 = g r) : ∀ n, n ≤ 3 → handU c x n = sumN n (fun r => min (x.getD r 0) (g r))
  | 0, _ => rfl
  | n + 1, hn => by
    simp only [handU, sumN, handU_sum c x g h n (by omega), h n (by omega)]; omega
/-- The program's sum. -/
theorem lackB_lk {m : Market} (hok : m.Ok) (x : List Int) (b fro : Nat) (h7 : x.getD 7 0 = fro) : lackB m x b = lk 3 4 (trs m fro) (fun r => x.getD r 0) (fun i => x.getD (3 + i) 0) (bset b) := by
  unfold lackB lk
  rw [wantU_sum, h7, handU_sum _ x (fun r => capR (trs m fro) (bset b) r) (fun r hr => capsU_capR hok fro b r hr _ (Nat.le_refl _)) 3 (Nat.le_refl _)]
theorem trsTo_mem {m : Market} {fro : Nat} {t : Tr} : ∀ i, t ∈ trsTo m fro i → ∃ u ∈ m.trains, t = toTr u ∧ leaves m u = true
  | 0, h => by simp [trsTo] at h
  | i + 1, h => by
    unfold trsTo at h
    cases e : m.trains[i]? with
    | none => rw [e] at h; exact trsTo_mem i h
    | some u =>
      rw [e] at h
      dsimp only at h
      split at h
      · rename_i h1
        rcases List.mem_append.1 h with h | h
        · exact trsTo_mem i h
        · simp at h; exact ⟨u, List.mem_of_getElem? e, h, h1.2⟩
      · exact trsTo_mem i h
theorem trs_fine {m : Market} (hok : m.Ok) {fro : Nat} {t : Tr} (h : t ∈ trs m fro) : t.room < m.rooms.length ∧ t.shop < m.shops.length ∧ 0 ≤ t.cap ∧ t.cap ≤ 60 := by
  obtain ⟨u, hu, rfl, _⟩ := trsTo_mem _ h
  have := hok.train u hu
  simp only [toTr]; omega
theorem capR_out {T : List Tr} {s : Nat → Bool} {r : Nat} (h : ∀ t ∈ T, t.room ≠ r) : capR T s r = 0 := by
  induction T with
  | nil => rfl
  | cons t T ih => rw [capR_cons, ih fun t ht => h t (.tail _ ht), if_neg (fun hh => h t (.head _) hh.1)]; rfl
theorem sumN_more (f : Nat → Int) {n : Nat} : ∀ k, (∀ i, n ≤ i → f i = 0) → sumN (n + k) f = sumN n f
  | 0, _ => rfl
  | k + 1, h => by rw [← Nat.add_assoc]; simp only [sumN]; rw [sumN_more f k h, h (n + k) (by omega)]; omega
theorem lk_wide {m : Market} (hok : m.Ok) (fro : Nat) (h w : Nat → Int) (hh : ∀ r, m.rooms.length ≤ r → 0 ≤ h r) (hw : ∀ i, m.shops.length ≤ i → w i = 0) (s : Nat → Bool) : lk 3 4 (trs m fro) h w s = lk m.rooms.length m.shops.length (trs m fro) h w s := by
  unfold lk
  have h1 := hok.lr
  have h2 := hok.ls
  obtain ⟨a, ha⟩ : ∃ a, 3 = m.rooms.length + a := ⟨3 - m.rooms.length, by omega⟩
  obtain ⟨c, hc⟩ : ∃ c, 4 = m.shops.length + c := ⟨4 - m.shops.length, by omega⟩
  rw [ha, hc, sumN_more _ c (fun i hi => by rw [hw i hi]; simp), sumN_more _ a (fun r hr => by
    rw [capR_out fun t ht e => by have := (trs_fine hok ht).1; omega]
    have := hh r hr
    omega)]
/-- What is left, told as the program tells it. -/
def packX (hands wants : List Int) (fro : Nat) : List Int := [hands.getD 0 0, hands.getD 1 0, hands.getD 2 0, wants.getD 0 0, wants.getD 1 0, wants.getD 2 0, wants.getD 3 0, (fro : Int)]
theorem packX_hand (hands wants : List Int) (fro : Nat) {r : Nat} (h : r < 3) : (packX hands wants fro).getD r 0 = hands.getD r 0 := by
  have : r = 0 ∨ r = 1 ∨ r = 2 := by omega
  rcases this with rfl | rfl | rfl <;> rfl
theorem packX_want (hands wants : List Int) (fro : Nat) {r : Nat} (h : r < 4) : (packX hands wants fro).getD (3 + r) 0 = wants.getD r 0 := by
  have : r = 0 ∨ r = 1 ∨ r = 2 ∨ r = 3 := by omega
  rcases this with rfl | rfl | rfl | rfl <;> rfl
theorem lk_congr {R S : Nat} {T : List Tr} {h h' w w' : Nat → Int} {s : Nat → Bool} (h1 : ∀ r < R, h r = h' r) (h2 : ∀ i < S, w i = w' i) : lk R S T h w s = lk R S T h' w' s := by
  unfold lk
  rw [sumN_congr S fun i hi => by rw [h2 i hi], sumN_congr R fun r hr => by rw [h1 r hr]]
theorem lack_same {m : Market} (hok : m.Ok) {hands wants : List Int} (hh : hands.length = m.rooms.length) (hw : wants.length = m.shops.length) (b fro : Nat) : lackR m hands wants (listL b m.shops.length) fro = lackB m (packX hands wants fro) b := by
  rw [lackR_lk hok, lackB_lk hok (packX hands wants fro) b fro rfl, lk_congr (h' := fun r => hands.getD r 0) (w' := fun i => wants.getD i 0) (fun r hr => packX_hand _ _ _ hr) (fun i hi => packX_want _ _ _ hi),
    lk_wide hok fro _ _ (fun r hr => by simp [List.getD, List.getElem?_eq_none (show hands.length ≤ r by omega)]) (fun i hi => by simp [List.getD, List.getElem?_eq_none (show wants.length ≤ i by omega)])]
theorem capR_none (T : List Tr) (r : Nat) : capR T (bset 0) r = 0 := by
  induction T with
  | nil => rfl
  | cons t T ih => rw [capR_cons, ih, if_neg]; rfl; rintro ⟨_, h⟩; simp [bset, bit] at h
theorem lackB_zero {m : Market} (hok : m.Ok) {x : List Int} {fro : Nat} (h7 : x.getD 7 0 = fro) (hn : ∀ z ∈ x, 0 ≤ z) : lackB m x 0 = 0 := by
  rw [lackB_lk hok x 0 fro h7]
  have hg : ∀ r, 0 ≤ x.getD r 0 := fun r => by
    by_cases hl : r < x.length
    · have := hn _ (List.getElem_mem hl); simpa [List.getD, hl] using this
    · simp [List.getD, hl]
  unfold lk
  rw [sumN_congr (g := fun _ => 0) 4 fun i hi => by simp [bset, bit], sumN_congr (g := fun _ => 0) 3 fun r hr => by
    dsimp only
    rw [capR_none]
    have := hg r
    omega]
  rw [sumN_zero, sumN_zero]; rfl
theorem getD_nn {l : List Int} (h : ∀ z ∈ l, 0 ≤ z) (r : Nat) : 0 ≤ l.getD r 0 := by
  by_cases hl : r < l.length
  · have := h _ (List.getElem_mem hl); simpa [List.getD, hl] using this
  · simp [List.getD, hl]
theorem packX_nn {hands wants : List Int} {fro : Nat} (h1 : ∀ z ∈ hands, 0 ≤ z) (h2 : ∀ z ∈ wants, 0 ≤ z) : ∀ z ∈ packX hands wants fro, 0 ≤ z := by
  intro z hz
  simp only [packX, List.mem_cons, List.not_mem_nil, or_false] at hz
  rcases hz with rfl | rfl | rfl | rfl | rfl | rfl | rfl | rfl
  · exact getD_nn h1 _
  · exact getD_nn h1 _
  · exact getD_nn h1 _
  · exact getD_nn h2 _
  · exact getD_nn h2 _
  · exact getD_nn h2 _
  · exact getD_nn h2 _
  · omega
theorem sub_small : ∀ n < 5, ∀ sub < 16, sub < 2 ^ n → ∀ b < 16, bitDiff b sub = 0 → b < 2 ^ n := by
  have h : ∀ n < 5, ∀ sub < 16, sub < 2 ^ n → ((List.range 16).all fun b => !decide (bitDiff b sub = 0) || decide (b < 2 ^ n)) = true := by decide +kernel
  intro n hn sub hs hs2 b hb hd
  have := List.all_eq_true.1 (h n hn sub hs hs2) b (by simpa using hb)
  simpa [hd] using this
/-- The reference's worst set is the program's. -/
theorem worst_same {m : Market} (hok : m.Ok) {hands wants : List Int} (hh : hands.length = m.rooms.length) (hw : wants.length = m.shops.length) (h1 : ∀ z ∈ hands, 0 ≤ z) (h2 : ∀ z ∈ wants, 0 ≤ z) {sub : Nat} (hs : sub < 2 ^ m.shops.length) (fro : Nat) :
    worstR m hands wants (listL sub m.shops.length) fro = worst m (packX hands wants fro) sub := by
  unfold worstR worst
  refine top_worst hok.ls hs (fun b hb hd => ?_) ?_
  · rw [lacksV_get hb]; exact lack_same hok hh hw b fro
  · rw [lacksV_get (by omega), lackB_zero hok (fro := fro) rfl (packX_nn h1 h2)]; omega
end Go.Rt.Sh
/- Plain laws of the shop layer: Can, Proof and Without of the program are the reference's. No conditions. -/
set_option linter.unusedSimpArgs false
set_option linter.unusedVariables false
namespace Go.Rt.Sh
theorem ext_getD {a b : List Int} (h : a.length = b.length) (hg : ∀ i < a.length, a.getD i 0 = b.getD i 0) : a = b := by
  apply List.ext_getElem h
  intro i h1 h2
  have := hg i h1
  simpa [List.getD, h1, h2] using this
def handsL (m : Market) (most : Bool) : List Int := if most then mostL m else leastL m
theorem handsL_len (m : Market) (t : Bool) : (handsL m t).length = m.rooms.length := by cases t <;> simp [handsL, mostL, leastL]
theorem wantsL_len (m : Market) : (wantsL m).length = m.shops.length := by simp [wantsL]
theorem handsL_get (m : Market) (t : Bool) (r : Nat) : (handsL m t).getD r 0 = match m.rooms[r]? with | some x => if t then x.hi else x.lo | none => 0 := by
  cases t <;> simp only [handsL, mostL, leastL, List.getD, if_true, Bool.false_eq_true, if_false] <;> rw [List.getElem?_map] <;> cases m.rooms[r]? <;> rfl
theorem wantsL_get (m : Market) (r : Nat) : (wantsL m).getD r 0 = match m.shops[r]? with | some x => x.want | none => 0 := by
  simp only [wantsL, List.getD]; rw [List.getElem?_map]; cases m.shops[r]? <;> rfl
theorem handsTo_get (m : Market) (t : Bool) : ∀ n, n ≤ m.rooms.length → n ≤ 8 → ∀ r, (handsTo m t n).getD r 0 = if r < n then (handsL m t).getD r 0 else 0
  | 0, _, _, r => by
    have e : (List.replicate 8 (0 : Int)).getD r 0 = 0 := by rw [List.getD, List.getElem?_replicate]; split <;> rfl
    rw [if_neg (by omega)]; exact e
  | n + 1, h, h8, r => by
    have ih := handsTo_get m t n (by omega) (by omega) r
    unfold handsTo
    by_cases e : n = r
    · subst e
      rw [getD_set (by rw [handsTo_len]; omega), if_pos (by omega), handsL_get]; cases m.rooms[n]? <;> rfl
    · rw [getD_other e, ih]
      by_cases h1 : r < n
      · rw [if_pos h1, if_pos (by omega)]
      · rw [if_neg h1, if_neg (by omega)]
theorem wantsTo_get (m : Market) (t : Bool) : ∀ n, n ≤ m.shops.length → n ≤ 5 → ∀ r, (wantsTo m t n).getD r 0 = if 3 ≤ r ∧ r < 3 + n then (wantsL m).getD (r - 3) 0 else (handsTo m t m.rooms.length).getD r 0
  | 0, _, _, r => by rw [if_neg (by omega)]; rfl
  | n + 1, h, h8, r => by
    have ih := wantsTo_get m t n (by omega) (by omega) r
    unfold wantsTo
    by_cases e : 3 + n = r
    · subst e
      rw [getD_set (by rw [wantsTo_len]; omega), if_pos (by omega), wantsL_get, show 3 + n - 3 = n by omega]; cases m.shops[n]? <;> rfl
    · rw [getD_other e, ih]
      by_cases h1 : 3 ≤ r ∧ r < 3 + n
      · rw [if_pos h1, if_pos (by omega)]
      · rw [if_neg h1, if_neg (by omega)]
theorem allX_pack {m : Market} (hok : m.Ok) (t : Bool) : allX m t = packX (handsL m t) (wantsL m) 0 := by
  have h1 := hok.lr
  have h2 := hok.ls
  have hl := handsL_len m t
  have hw := wantsL_len m
  have hz : ∀ {l : List Int} {r : Nat}, l.length ≤ r → l.getD r 0 = 0 := fun h => by simp [List.getD, List.getElem?_eq_none h]
  refine ext_getD (by rw [allX_len]; rfl) fun i hi => ?_
  rw [allX_len] at hi
  unfold allX
  rw [wantsTo_get m t _ (Nat.le_refl _) (by omega), handsTo_get m t _ (Nat.le_refl _) (by omega)]
  by_cases hi3 : i < 3
  · rw [packX_hand _ _ _ hi3, if_neg (by omega)]
    split
    · rfl
    · rw [hz (by omega)]
  · by_cases hi7 : i < 7
    · obtain ⟨j, rfl⟩ : ∃ j, i = 3 + j := ⟨i - 3, by omega⟩
      rw [packX_want _ _ _ (by omega), show 3 + j - 3 = j by omega]
      by_cases hj : j < m.shops.length
      · rw [if_pos (by omega)]
      · rw [if_neg (by omega), if_neg (by omega), hz (by omega)]
    · have : i = 7 := by omega
      subst this
      rw [if_neg (by omega), if_neg (by omega)]; rfl
theorem handsL_nn {m : Market} (hok : m.Ok) (t : Bool) : ∀ z ∈ handsL m t, 0 ≤ z := by
  intro z hz
  cases t
  · simp only [handsL, Bool.false_eq_true, if_false, leastL] at hz
    obtain ⟨r, hr, rfl⟩ := List.mem_map.1 hz; have := hok.room r hr; omega
  · simp only [handsL, if_true, mostL] at hz
    obtain ⟨r, hr, rfl⟩ := List.mem_map.1 hz; have := hok.room r hr; omega
theorem wantsL_nn {m : Market} (hok : m.Ok) : ∀ z ∈ wantsL m, 0 ≤ z := by
  intro z hz; obtain ⟨r, hr, rfl⟩ := List.mem_map.1 hz; have := hok.shop r hr; omega
theorem worst_all {m : Market} (hok : m.Ok) (t : Bool) {sub : Nat} (hs : sub < 2 ^ m.shops.length) : worstR m (handsL m t) (wantsL m) (listL sub m.shops.length) 0 = worst m (allX m t) sub := by
  rw [allX_pack hok, worst_same hok (handsL_len m t) (wantsL_len m) (handsL_nn hok t) (wantsL_nn hok) hs]
theorem served_all {m : Market} (hok : m.Ok) (t : Bool) {sub : Nat} (hs : sub < 2 ^ m.shops.length) : servedR m (handsL m t) (listL sub m.shops.length) = servedS m (allX m t) sub := by
  unfold servedR servedS; rw [worst_all hok t hs]
/-! ### Rising numbers, as bits -/
def allL : Nat → List (List Int)
  | 0 => [[]]
  | k + 1 => (allL k).flatMap fun l => [0, 1, 2, 3].map fun z => z :: l
theorem mem_allL : ∀ (l : List Int), (∀ z ∈ l, 0 ≤ z ∧ z < 4) → l ∈ allL l.length
  | [], _ => by simp [allL]
  | z :: l, h => by
    have ih := mem_allL l fun y hy => h y (.tail _ hy)
    have hz := h z (.head _)
    simp only [List.length_cons, allL, List.mem_flatMap]
    refine ⟨l, ih, ?_⟩
    rw [List.mem_map]
    have : z = 0 ∨ z = 1 ∨ z = 2 ∨ z = 3 := by omega
    rcases this with rfl | rfl | rfl | rfl <;> exact ⟨_, by simp, rfl⟩
theorem rise_fin : ∀ n : Nat, n < 5 → ∀ k : Nat, k < 5 → ∀ l ∈ allL k, (!(rising (n : Int) (-1) l && l.all fun x => decide (x < (n : Int))) || (decide (someS l < 2 ^ n) && decide (listL (someS l) n = l))) = true := by decide +kernel
theorem rise_some {n : Nat} {l : List Int} (hn : n ≤ 4) (h : ∀ x ∈ l, 0 ≤ x ∧ x < (n : Int)) (hr : rising n (-1) l = true) : someS l < 2 ^ n ∧ listL (someS l) n = l := by
  have hl : l.length ≤ 4 := by
    match l, h, hr with
    | [], _, _ => simp
    | x :: l, h, hr =>
      have h0 := h x (.head _)
      have := rising_len (x :: l) (-1) hr (by omega) (by omega)
      omega
  have := rise_fin n (by omega) l.length (by omega) l (mem_allL l fun z hz => by have := h z hz; omega)
  rw [hr, List.all_eq_true.2 fun x hx => by simpa using (h x hx).2] at this
  simpa using this
theorem some_list : ∀ n < 5, ∀ b < 16, b < 2 ^ n → someS (listL b n) = b := by decide +kernel
theorem asked_some {m : Market} (l : List Int) : askedE m l = someE m l := by
  have hA : askTo m l l.length = enterE m m.shops.length l := by unfold askTo enterE; rw [List.take_length]
  unfold askedE someE
  rw [hA]
  by_cases h : enterE m m.shops.length l = 0
  · rw [if_neg (show ¬ (enterE m m.shops.length l ≠ 0) by simp [h])]
    obtain ⟨hck, hx⟩ := enterE_ok h
    have hok := check_ok hck
    have hls := hok.ls
    have hor := orBits_rising m.shops.length (by omega) l (-1) 0 hx (fun x hx => by simp; omega) (by omega) (by omega)
    cases e : orBits 0 l with
    | none => rw [if_pos ⟨h, hor.1 e⟩]
    | some s =>
      rw [if_neg, h]
      rintro ⟨_, h⟩
      rw [hor.2 h] at e; cases e
  · rw [if_neg (fun h' => h h'.1), if_pos h]
theorem can_same (m : Market) (l : List Int) : canR m l = canP m l := by
  unfold canR canP
  rw [← asked_some]
  by_cases h : askedE m l = 0
  · have hne : ¬ (askedE m l ≠ 0) := by simp [h]
    rw [if_neg hne, if_neg hne]
    obtain ⟨hck, hlb, hri⟩ := askedE_chk h
    have hok := check_ok hck
    obtain ⟨h1, h2⟩ := rise_some hok.ls hlb hri
    have e1 := served_all hok false h1
    have e2 := served_all hok true h1
    rw [h2] at e1 e2
    simp only [handsL, Bool.false_eq_true, if_false, if_true] at e1 e2
    rw [e1, e2]
    cases servedS m (allX m false) (someS l) <;> cases servedS m (allX m true) (someS l) <;> rfl
  · rw [if_pos h, if_pos h]
theorem proof_same (m : Market) (l : List Int) : proofR m l = proofP m l := by
  unfold proofR proofP
  rw [← asked_some]
  by_cases h : askedE m l = 0
  · have hne : ¬ (askedE m l ≠ 0) := by simp [h]
    rw [if_neg hne, if_neg hne]
    obtain ⟨hck, hlb, hri⟩ := askedE_chk h
    have hok := check_ok hck
    obtain ⟨h1, h2⟩ := rise_some hok.ls hlb hri
    have e1 := worst_all hok false h1
    rw [h2] at e1
    simp only [handsL, Bool.false_eq_true, if_false] at e1
    rw [e1]
  · rw [if_pos h, if_pos h]
/-! ### Without -/
def MinW (C P : List Int → Prop) (s : List Int) : Prop := C s ∧ P s ∧ ∀ c, C c → P c → c = s ∨ before s c = true
theorem MinW.uniq {C P : List Int → Prop} {s t : List Int} (h1 : MinW C P s) (h2 : MinW C P t) : s = t := by
  rcases h1.2.2 t h2.1 h2.2.1 with h | h
  · exact h.symm
  · rcases h2.2.2 s h1.1 h1.2.1 with h' | h'
    · exact h'
    · rw [before_asymm h] at h'; cases h'
def othersOk (m : Market) (s : List Int) : Prop := servedR m (leastL m) (othersTo s m.shops.length) = true
theorem firstW_min {m : Market} : ∀ (L : List (List Int)), L.Pairwise (fun a b => before a b = true) → (∃ s ∈ L, othersOk m s) → MinW (· ∈ L) (othersOk m) (firstW m L)
  | [], _, h => by obtain ⟨s, h, _⟩ := h; cases h
  | x :: L, hp, h => by
    rw [List.pairwise_cons] at hp
    unfold firstW
    by_cases hx : servedR m (leastL m) (othersTo x m.shops.length) = true
    · rw [if_pos hx]
      refine ⟨.head _, hx, fun c hc _ => ?_⟩
      cases hc with
      | head => exact .inl rfl
      | tail _ hc => exact .inr (hp.1 c hc)
    · rw [if_neg hx]
      obtain ⟨s, hs, hso⟩ := h
      have hsL : s ∈ L := by
        cases hs with
        | head => exact absurd hso hx
        | tail _ hs => exact hs
      obtain ⟨h1, h2, h3⟩ := firstW_min L hp.2 ⟨s, hsL, hso⟩
      refine ⟨.tail _ h1, h2, fun c hc hco => ?_⟩
      cases hc with
      | head => exact absurd hco hx
      | tail _ hc => exact h3 c hc hco
theorem others_list : ∀ n < 5, ∀ b < 16, b < 2 ^ n → othersTo (listL b n) n = listL (bitDiff (1 <<< n - 1) b) n ∧ bitDiff (1 <<< n - 1) b < 2 ^ n := by decide +kernel
theorem others_nil : ∀ n < 5, othersTo [] n = listL (1 <<< n - 1) n ∧ 1 <<< n - 1 < 2 ^ n ∧ othersTo (listL (1 <<< n - 1) n) n = [] ∧ 1 <<< n - 1 < 16 ∧ 2 ^ n = 1 <<< n := by decide +kernel
theorem servedR_nil (m : Market) (hands : List Int) : servedR m hands [] = true := by
  have : setsL [] = [[]] := by decide
  unfold servedR worstR
  rw [this]
  rfl
theorem withoutTo_min {m : Market} (hok : m.Ok) : ∀ k, k ≤ 1 <<< m.shops.length - 1 → MinW (fun l => l = listL (1 <<< m.shops.length - 1) m.shops.length ∨ ∃ b, b < k ∧ l = listL b m.shops.length) (othersOk m) (withoutTo m k)
  | 0, _ => by
    have h := others_nil m.shops.length (by have := hok.ls; omega)
    refine ⟨.inl rfl, ?_, fun c hc _ => ?_⟩
    · show servedR m (leastL m) (othersTo (listL (1 <<< m.shops.length - 1) m.shops.length) m.shops.length) = true
      rw [h.2.2.1]; exact servedR_nil _ _
    · rcases hc with h | ⟨b, h, _⟩
      · exact .inl h
      · omega
  | k + 1, hk => by
    obtain ⟨h1, h2, h3⟩ := withoutTo_min hok k (by omega)
    have hn := others_nil m.shops.length (by have := hok.ls; omega)
    have hok2 := others_list m.shops.length (by have := hok.ls; omega) k (by omega) (by omega)
    have hsv := served_all hok false hok2.2
    simp only [handsL, Bool.false_eq_true, if_false] at hsv
    have hP : othersOk m (listL k m.shops.length) ↔ servedS m (allX m false) (bitDiff (1 <<< m.shops.length - 1) k) = true := by
      unfold othersOk; rw [hok2.1, hsv]
    simp only [withoutTo, withoutStep]
    by_cases hb : before (listL k m.shops.length) (withoutTo m k) = true
    · by_cases hsd : servedS m (allX m false) (bitDiff (1 <<< m.shops.length - 1) k) = true
      · rw [hb, hsd]
        refine ⟨.inr ⟨k, by omega, rfl⟩, hP.2 hsd, fun c hc hco => ?_⟩
        have hc' : (c = listL (1 <<< m.shops.length - 1) m.shops.length ∨ ∃ b, b < k ∧ c = listL b m.shops.length) ∨ c = listL k m.shops.length := by
          rcases hc with h | ⟨b, hb, h⟩
          · exact .inl (.inl h)
          · by_cases e : b = k
            · subst e; exact .inr h
            · exact .inl (.inr ⟨b, by omega, h⟩)
        rcases hc' with hc' | hc'
        · rcases h3 c hc' hco with h | h
          · subst h; exact .inr hb
          · exact .inr (before_trans hb h)
        · exact .inl hc'
      · rw [hb]
        simp only [Bool.not_eq_true] at hsd
        rw [hsd]
        refine ⟨?_, h2, fun c hc hco => ?_⟩
        · rcases h1 with h | ⟨b, hb, h⟩
          · exact .inl h
          · exact .inr ⟨b, by omega, h⟩
        · rcases hc with h | ⟨b, hb, h⟩
          · exact h3 c (.inl h) hco
          · by_cases e : b = k
            · subst e; subst h; rw [hP.1 hco] at hsd; cases hsd
            · exact h3 c (.inr ⟨b, by omega, h⟩) hco
    · simp only [Bool.not_eq_true] at hb
      rw [hb]
      refine ⟨?_, h2, fun c hc hco => ?_⟩
      · rcases h1 with h | ⟨b, hb, h⟩
        · exact .inl h
        · exact .inr ⟨b, by omega, h⟩
      · rcases hc with h | ⟨b, hb', h⟩
        · exact h3 c (.inl h) hco
        · by_cases e : b = k
          · subst e; subst h
            show listL b m.shops.length = withoutTo m b ∨ before (withoutTo m b) (listL b m.shops.length) = true
            cases hbb : before (withoutTo m b) (listL b m.shops.length) with
            | true => exact .inr rfl
            | false => exact .inl (before_total hb hbb)
          · exact h3 c (.inr ⟨b, by omega, h⟩) hco
theorem diff_all : ∀ n < 5, ∀ b < 16, (bitDiff b (1 <<< n - 1) = 0 ↔ b < 2 ^ n) := by decide +kernel
theorem withoutL_min {m : Market} (hok : m.Ok) : MinW (· ∈ setsL (othersTo [] m.shops.length)) (othersOk m) (withoutL m) := by
  have hls := hok.ls
  have hn := others_nil m.shops.length (by omega)
  obtain ⟨h1, h2, h3⟩ := withoutTo_min hok _ (Nat.le_refl _)
  have hiff : ∀ l, l ∈ setsL (othersTo [] m.shops.length) ↔ (l = listL (1 <<< m.shops.length - 1) m.shops.length ∨ ∃ b, b < 1 <<< m.shops.length - 1 ∧ l = listL b m.shops.length) := by
    intro l
    rw [hn.1]
    constructor
    · intro h
      obtain ⟨b, hb, hd, e⟩ := sets_in m.shops.length (by omega) _ hn.2.2.2.1 hn.2.1 l h
      have := (diff_all m.shops.length (by omega) b hb).1 hd
      by_cases e2 : b = 1 <<< m.shops.length - 1
      · subst e2; exact .inl e
      · exact .inr ⟨b, by omega, e⟩
    · rintro (e | ⟨b, hb, e⟩)
      · subst e
        exact sets_all m.shops.length (by omega) _ hn.2.2.2.1 hn.2.1 _ hn.2.2.2.1 ((diff_all m.shops.length (by omega) _ hn.2.2.2.1).2 hn.2.1)
      · subst e
        exact sets_all m.shops.length (by omega) _ hn.2.2.2.1 hn.2.1 _ (by omega) ((diff_all m.shops.length (by omega) _ (by omega)).2 (by omega))
  exact ⟨(hiff _).2 h1, h2, fun c hc hco => h3 c ((hiff c).1 hc) hco⟩
theorem sets_pair_all {m : Market} (hok : m.Ok) : (setsL (othersTo [] m.shops.length)).Pairwise fun a b => before a b = true := by
  have hn := others_nil m.shops.length (by have := hok.ls; omega)
  rw [hn.1]
  exact sets_pairwise m.shops.length (by have := hok.ls; omega) _ hn.2.2.2.1 hn.2.1
theorem first_without {m : Market} (hok : m.Ok) : firstW m (setsL (othersTo [] m.shops.length)) = withoutL m :=
  (firstW_min _ (sets_pair_all hok) ⟨_, (withoutL_min hok).1, (withoutL_min hok).2.1⟩).uniq (withoutL_min hok)
theorem without_same (m : Market) : withoutR m = withoutP m := by
  unfold withoutR withoutP
  by_cases h : (check m).2.2 = 0
  · have hne : ¬ ((check m).2.2 ≠ 0) := by simp [h]
    rw [if_neg hne, if_neg hne, first_without (check_ok h)]
  · rw [if_pos h, if_pos h]
end Go.Rt.Sh
/- Plain laws of the shop layer: a room with more hands, a train that is late; More and Late of the program are the reference's. No conditions. -/
set_option linter.unusedSimpArgs false
set_option linter.unusedVariables false
namespace Go.Rt
theorem setMany_mid : ∀ (vs old pre post : List Value), old.length = vs.length → setMany (pre ++ (old ++ post)) pre.length vs = pre ++ (vs ++ post)
  | [], [], pre, post, _ => by simp [setMany]
  | v :: vs, o :: old, pre, post, h => by
    have ih := setMany_mid vs old (pre ++ [v]) post (by simpa using h)
    simp only [setMany]
    rw [List.set_append_right _ _ (Nat.le_refl _), Nat.sub_self, List.cons_append, List.set_cons_zero]
    simpa using ih
  | [], _ :: _, _, _, h => by simp at h
  | _ :: _, [], _, _, h => by simp at h
theorem flat_len_sz {rows : List (List Value)} {sz : Nat} (hr : ∀ row ∈ rows, row.length = sz) : rows.flatten.length = rows.length * sz := by
  induction rows with
  | nil => simp
  | cons r l ih => rw [List.flatten_cons, List.length_append, hr r (.head _), ih fun x hx => hr x (.tail _ hx), List.length_cons, Nat.succ_mul]; omega
theorem setMany_rows {rows : List (List Value)} {sz i n : Nat} {row cs : List Value} (hn : rows.length = n) (hr : ∀ row ∈ rows, row.length = sz) (hi : i < rows.length) (hrow : row.length = sz) (h : cs.take (n * sz) = rows.flatten) : (setMany cs (i * sz) row).take (n * sz) = (rows.set i row).flatten := by
  have hpre : (rows.take i).flatten.length = i * sz := by
    rw [flat_len_sz (fun x hx => hr x (List.mem_of_mem_take hx)), List.length_take, Nat.min_eq_left (by omega)]
  have e1 : rows.flatten = (rows.take i).flatten ++ (rows[i] ++ (rows.drop (i + 1)).flatten) := by
    rw [← List.flatten_cons, ← List.drop_eq_getElem_cons hi, ← List.flatten_append, List.take_append_drop]
  have e2 : cs = (rows.take i).flatten ++ (rows[i] ++ ((rows.drop (i + 1)).flatten ++ cs.drop (n * sz))) := by
    have := List.take_append_drop (n * sz) cs
    rw [h, e1] at this
    simpa [List.append_assoc] using this.symm
  have e3 := setMany_mid row rows[i] (rows.take i).flatten ((rows.drop (i + 1)).flatten ++ cs.drop (n * sz)) (by rw [hrow, hr _ (List.getElem_mem hi)])
  rw [← e2, hpre] at e3
  rw [e3]
  have e4 : (rows.set i row).flatten = (rows.take i).flatten ++ (row ++ (rows.drop (i + 1)).flatten) := by
    rw [List.set_eq_take_append_cons_drop, if_pos hi, List.flatten_append, List.flatten_cons]
  have e5 : (rows.set i row).flatten.length = n * sz := by
    rw [flat_len_sz, List.length_set, hn]
    intro x hx
    rcases List.mem_or_eq_of_mem_set hx with h | h
    · exact hr x h
    · rw [h]; exact hrow
  have e6 : (rows.take i).flatten ++ (row ++ ((rows.drop (i + 1)).flatten ++ cs.drop (n * sz))) = (rows.set i row).flatten ++ cs.drop (n * sz) := by rw [e4]; simp [List.append_assoc]
  rw [e6, List.take_append_of_le_length (Nat.le_of_eq e5.symm), List.take_of_length_le (Nat.le_of_eq e5)]
namespace Sh
def addH (r : Room) (n : Int) : Room := { r with lo := r.lo + n, hi := r.hi + n }
def addRoom : List Room → Nat → Int → List Room
  | [], _, _ => []
  | r :: l, 0, n => addH r n :: l
  | r :: l, i + 1, n => r :: addRoom l i n
theorem addRoom_set : ∀ (l : List Room) (i : Nat) (n : Int) (h : i < l.length), addRoom l i n = l.set i (addH l[i] n)
  | [], _, _, h => by simp at h
  | _ :: _, 0, _, _ => rfl
  | _ :: l, i + 1, n, h => by simp [addRoom, addRoom_set l i n (by simpa using h)]
theorem setLate_set : ∀ (l : List Train) (i : Nat) (h : i < l.length), setLate l i = l.set i (late l[i])
  | [], _, h => by simp at h
  | _ :: _, 0, _ => rfl
  | _ :: l, i + 1, h => by simp [setLate, setLate_set l i (by simpa using h)]
theorem addRoom_len : ∀ (l : List Room) (i : Nat) (n : Int), (addRoom l i n).length = l.length
  | [], _, _ => rfl
  | _ :: _, 0, _ => rfl
  | _ :: l, i + 1, n => by simp [addRoom, addRoom_len l i n]
def withM (m : Market) (i : Nat) (n : Int) : Market := { m with rooms := addRoom m.rooms i n }
theorem mem_addRoom {l : List Room} {i : Nat} {n : Int} {t : Room} (h : t ∈ addRoom l i n) : t ∈ l ∨ ∃ t' ∈ l, t = addH t' n := by
  induction l generalizing i with
  | nil => simp [addRoom] at h
  | cons x l ih =>
    cases i with
    | zero =>
      simp only [addRoom, List.mem_cons] at h
      rcases h with rfl | h
      · exact .inr ⟨x, .head _, rfl⟩
      · exact .inl (.tail _ h)
    | succ i =>
      simp only [addRoom, List.mem_cons] at h
      rcases h with rfl | h
      · exact .inl (.head _)
      · rcases ih h with h | ⟨t', h1, h2⟩
        · exact .inl (.tail _ h)
        · exact .inr ⟨t', .tail _ h1, h2⟩
theorem check_room {m : Market} (h : (check m).2.2 = 0) : ∀ r ∈ m.rooms, 0 ≤ r.lo ∧ r.lo ≤ r.hi ∧ r.hi ≤ 60 := by
  obtain ⟨h1, _, _⟩ := check_parts h
  intro t ht
  obtain ⟨k, hk, rfl⟩ := List.getElem_of_mem ht
  have := roomE_zero ((failE_zero h1).2 k hk)
  omega
theorem withM_ok {m : Market} (h : (check m).2.2 = 0) (i : Nat) {n : Int} (hn : 0 ≤ n ∧ n ≤ 60) : (withM m i n).Ok := by
  have hok := check_ok h
  have hd := check_room h
  refine ⟨by show (addRoom _ _ _).length ≤ 3; rw [addRoom_len]; exact hok.lr, hok.ls, hok.lt, fun t ht => ?_, hok.shop, fun t ht => ?_⟩
  · rcases mem_addRoom ht with h | ⟨t', h1, rfl⟩
    · exact hok.room t h
    · have h2 := hok.room t' h1
      have h3 := hd t' h1
      show 0 ≤ t'.lo + n ∧ t'.lo + n ≤ t'.hi + n ∧ t'.hi + n ≤ 200 ∧ 0 ≤ t'.fro ∧ t'.fro ≤ t'.las ∧ t'.las ≤ 9
      omega
  · have := hok.train t ht
    show 0 ≤ t.room ∧ t.room < (addRoom m.rooms i n).length ∧ _
    rw [addRoom_len]; exact this
theorem withM_cells (m : Market) (i : Nat) (n : Int) (p : At3) : (withM m i n).cells p = [.slice p.ar m.rooms.length p.cr, .slice p.az m.shops.length p.cs, .slice p.at_ m.trains.length p.ct] := by simp [Market.cells, withM, addRoom_len]
theorem rrows_row (l : List Room) : ∀ row ∈ rrows l, row.length = 5 := by intro row h; obtain ⟨q, _, rfl⟩ := List.mem_map.1 h; rfl
theorem trows_row (l : List Train) : ∀ row ∈ trows l, row.length = 4 := by intro row h; obtain ⟨q, _, rfl⟩ := List.mem_map.1 h; rfl
theorem cells_room {cs : List Value} {l : List Room} {n i : Nat} {x : Int} (hn : l.length = n) (h : cs.take (n * 5) = (rrows l).flatten) (hi : i < l.length) : (setMany cs (i * 5) (addH l[i] x).cells).take (n * 5) = (rrows (addRoom l i x)).flatten := by
  have := setMany_rows (row := (addH l[i] x).cells) (by simpa [rrows] using hn) (rrows_row l) (by simpa [rrows] using hi) rfl h
  rw [this, addRoom_set l i x hi]; simp [rrows, List.map_set]
theorem cells_slow {cs : List Value} {l : List Train} {n i : Nat} (hn : l.length = n) (h : cs.take (n * 4) = (trows l).flatten) (hi : i < l.length) : (setMany cs (i * 4) (late l[i]).cells).take (n * 4) = (trows (setLate l i)).flatten := by
  have := setMany_rows (row := (late l[i]).cells) (by simpa [trows] using hn) (trows_row l) (by simpa [trows] using hi) rfl h
  rw [this, setLate_set l i hi]; simp [trows, List.map_set]
/-! ### More and Late -/
def allL' (m : Market) : List Int := othersTo [] m.shops.length
def moreToR (m : Market) (r i : Nat) : Nat → Option Nat
  | 0 => none
  | k + 1 => if servedR m (leastL (withM m r i)) (allL' m) then some i else moreToR m r (i + 1) k
def moreR (m : Market) (r : Int) : Int × Int := if enterE m m.rooms.length [r] ≠ 0 then (0, enterE m m.rooms.length [r]) else match moreToR m r.toNat 0 61 with | some n => ((n : Int), 0) | none => (0, 9)
theorem moreToR_yes {m : Market} {r i k : Nat} (h : servedR m (leastL (withM m r i)) (allL' m) = true) : moreToR m r i (k + 1) = some i := by unfold moreToR; rw [if_pos h]
theorem moreToR_no {m : Market} {r i k : Nat} (h : servedR m (leastL (withM m r i)) (allL' m) = false) : moreToR m r i (k + 1) = moreToR m r (i + 1) k := by rw [moreToR, if_neg (by simp [h])]
def lateR (m : Market) (r : Int) : Int × Int :=
  if enterE m m.trains.length [r] ≠ 0 then (0, enterE m m.trains.length [r]) else
    (max (0 : Int) ((worstR (lateM m r.toNat) (leastL m) (wantsL m) (allL' m) 0).2 - (worstR m (leastL m) (wantsL m) (allL' m) 0).2), 0)
theorem leastL_with {m : Market} {r : Nat} (n : Int) (hr : r < m.rooms.length) : leastL (withM m r n) = (leastL m).set r ((leastL m).getD r 0 + n) := by
  unfold leastL withM
  rw [addRoom_set _ _ _ hr, List.map_set]
  congr 1
  simp [List.getD, hr, addH]
theorem packX_set {hands wants : List Int} {fro r : Nat} {z : Int} (hr : r < 3) (hl : r < hands.length) : packX (hands.set r z) wants fro = (packX hands wants fro).set r z := by
  refine ext_getD (by simp [packX]) fun i hi => ?_
  have hi8 : i < 8 := hi
  by_cases h3 : i < 3
  · rw [packX_hand _ _ _ h3]
    by_cases e : r = i
    · subst e
      rw [getD_set hl, getD_set (by simp [packX]; omega)]
    · rw [getD_other e, getD_other e, packX_hand _ _ _ h3]
  · rw [getD_other (x := packX hands wants fro) (by omega)]
    have : i = 3 ∨ i = 4 ∨ i = 5 ∨ i = 6 ∨ i = 7 := by omega
    rcases this with rfl | rfl | rfl | rfl | rfl <;> rfl
theorem all_list {m : Market} (hok : m.Ok) : allL' m = listL (1 <<< m.shops.length - 1) m.shops.length ∧ 1 <<< m.shops.length - 1 < 2 ^ m.shops.length := by
  have hn := others_nil m.shops.length (by have := hok.ls; omega)
  exact ⟨hn.1, hn.2.1⟩
theorem served_more {m : Market} (h : (check m).2.2 = 0) {r i : Nat} (hr : r < m.rooms.length) (hi : i ≤ 60) : servedR m (leastL (withM m r i)) (allL' m) = servedS m (moreX m r i) (1 <<< m.shops.length - 1) := by
  have hok := check_ok h
  have hlr := hok.lr
  have ha := all_list hok
  have hl : (leastL m).length = m.rooms.length := by simp [leastL]
  have hnn : ∀ z ∈ leastL (withM m r i), 0 ≤ z := handsL_nn (withM_ok h r (n := i) (by omega)) false
  have hlen : (leastL (withM m r i)).length = m.rooms.length := by simp [leastL, withM, addRoom_len]
  unfold servedR servedS moreX
  rw [ha.1, worst_same hok hlen (wantsL_len m) hnn (wantsL_nn hok) ha.2, leastL_with _ hr, packX_set (by omega) (by omega), allX_pack hok]
  simp only [handsL, Bool.false_eq_true, if_false]
  rw [packX_hand _ _ _ (by omega)]
theorem more_same (m : Market) (r : Int) : moreR m r = moreP m r := by
  unfold moreR moreP
  by_cases h : enterE m m.rooms.length [r] = 0
  · have hne : ¬ (enterE m m.rooms.length [r] ≠ 0) := by simp [h]
    rw [if_neg hne, if_neg hne]
    obtain ⟨hck, hr⟩ := enterE_ok h
    have hr := hr r (.head _)
    have hk : ∀ k i, i + k = 61 → moreToR m r.toNat i k = moreTo m r.toNat i k := by
      intro k
      induction k with
      | zero => intro i _; rfl
      | succ k ih =>
        intro i hi
        unfold moreToR moreTo
        rw [served_more hck (by omega) (by omega), ih (i + 1) (by omega)]
    rw [hk 61 0 rfl]; cases moreTo m r.toNat 0 61 <;> rfl
  · rw [if_pos h, if_pos h]
theorem moreR_1 {m : Market} {r : Int} (h : enterE m m.rooms.length [r] ≠ 0) : moreR m r = (0, enterE m m.rooms.length [r]) := by unfold moreR; rw [if_pos h]
theorem moreR_2 {m : Market} {r : Int} {n : Nat} (h : enterE m m.rooms.length [r] = 0) (h2 : moreToR m r.toNat 0 61 = some n) : moreR m r = ((n : Int), 0) := by unfold moreR; rw [if_neg (by simp [h]), h2]
theorem moreR_3 {m : Market} {r : Int} (h : enterE m m.rooms.length [r] = 0) (h2 : moreToR m r.toNat 0 61 = none) : moreR m r = (0, 9) := by unfold moreR; rw [if_neg (by simp [h]), h2]
theorem moreR_here {m : Market} {r i k : Nat} (hk : k = 61 - i) (hi : i < 61) (h : servedR m (leastL (withM m r i)) (allL' m) = true) : moreToR m r i k = some i := by
  obtain ⟨q, rfl⟩ : ∃ q, k = q + 1 := ⟨k - 1, by omega⟩
  exact moreToR_yes h
theorem moreR_on {m : Market} {r i : Nat} (hi : i < 61) (h : servedR m (leastL (withM m r i)) (allL' m) = false) : moreToR m r i (61 - i) = moreToR m r (i + 1) (61 - (i + 1)) := by
  rw [show 61 - i = (61 - (i + 1)) + 1 by omega]; exact moreToR_no h
theorem moreR_end {m : Market} {r i : Nat} (hi : 61 ≤ i) : moreToR m r i (61 - i) = none := by rw [show 61 - i = 0 by omega]; rfl
theorem lateR_1 {m : Market} {r : Int} (h : enterE m m.trains.length [r] ≠ 0) : lateR m r = (0, enterE m m.trains.length [r]) := by unfold lateR; rw [if_pos h]
theorem lateR_2 {m : Market} {r : Int} (h : enterE m m.trains.length [r] = 0) : lateR m r = (max (0 : Int) ((worstR (lateM m r.toNat) (leastL m) (wantsL m) (allL' m) 0).2 - (worstR m (leastL m) (wantsL m) (allL' m) 0).2), 0) := by unfold lateR; rw [if_neg (by simp [h])]
theorem worstR_bound {m : Market} (hok : m.Ok) {hands wants shops : List Int} (hh : ∀ z ∈ hands, -10000 ≤ z ∧ z ≤ 10000) (hw : ∀ z ∈ wants, -10000 ≤ z ∧ z ≤ 10000) (hs : shops.length ≤ 4) (fro : Nat) : 0 ≤ (worstR m hands wants shops fro).2 ∧ (worstR m hands wants shops fro).2 ≤ 100000 :=
  topTo_bound (fun s h => (lackR_bound hok hh hw (by have := (setsL_in h).1; omega) fro).2) _
theorem late_same (m : Market) (r : Int) : lateR m r = lateP m r := by
  unfold lateR lateP
  by_cases h : enterE m m.trains.length [r] = 0
  · have hne : ¬ (enterE m m.trains.length [r] ≠ 0) := by simp [h]
    rw [if_neg hne, if_neg hne]
    obtain ⟨hck, hr⟩ := enterE_ok h
    have hok := check_ok hck
    have hokl := lateM_ok hck r.toNat
    have ha := all_list hok
    have e1 := worst_all hok false ha.2
    have e2 := worst_same hokl (hands := leastL m) (wants := wantsL m) (by simp [leastL]; rfl) (wantsL_len m) (handsL_nn hok false) (wantsL_nn hok) (sub := 1 <<< m.shops.length - 1) ha.2 0
    have e3 := allX_pack hok false
    simp only [handsL, Bool.false_eq_true, if_false] at e1 e3
    rw [← e3] at e2
    rw [ha.1, e1]
    have e4 : (lateM m r.toNat).shops = m.shops := rfl
    rw [e4] at e2
    rw [e2]
  · rw [if_pos h, if_pos h]
end Sh
end Go.Rt
/- Plain laws of the shop layer: no shops lack anything just if the worst set lacks nothing; Give, train by train. No conditions. -/
set_option linter.unusedSimpArgs false
set_option linter.unusedVariables false
namespace Go.Rt.Sh
def gD (l : List Int) : Nat → Int := fun r => l.getD r 0
theorem bits4 : ∀ a b c d : Bool, (cond a 1 0 + cond b 2 0 + cond c 4 0 + cond d 8 0 < 16) ∧ ∀ i < 4, bset (cond a 1 0 + cond b 2 0 + cond c 4 0 + cond d 8 0) i = (if i = 0 then a else if i = 1 then b else if i = 2 then c else d) := by decide
theorem bset_out {b i : Nat} (hb : b < 16) (hi : 4 ≤ i) : bset b i = false := by
  have : b >>> i = 0 := by
    rw [Nat.shiftRight_eq_div_pow]
    have : 2 ^ 4 ≤ 2 ^ i := Nat.pow_le_pow_right (by omega) hi
    exact Nat.div_eq_of_lt (by omega)
  simp [bset, bit, this]
theorem diff_sub : ∀ b < 16, ∀ sub < 16, (bitDiff b sub = 0 ↔ ∀ i < 4, bset b i = true → bset sub i = true) := by decide +kernel
theorem bset_sub {b sub : Nat} (hb : b < 16) (hs : sub < 16) : bitDiff b sub = 0 ↔ Sub (bset b) (bset sub) := by
  rw [diff_sub b hb sub hs]
  constructor
  · intro h i hi
    by_cases h4 : i < 4
    · exact h i h4 hi
    · rw [bset_out hb (by omega)] at hi; cases hi
  · intro h i _ hi; exact h i hi
theorem sub_bits {s : Nat → Bool} {sub : Nat} (hs : sub < 16) (h : Sub s (bset sub)) : ∃ b < 16, bset b = s ∧ bitDiff b sub = 0 := by
  have hb := bits4 (s 0) (s 1) (s 2) (s 3)
  refine ⟨_, hb.1, ?_, ?_⟩
  · funext i
    by_cases h4 : i < 4
    · rw [hb.2 i h4]
      have : i = 0 ∨ i = 1 ∨ i = 2 ∨ i = 3 := by omega
      rcases this with rfl | rfl | rfl | rfl <;> rfl
    · rw [bset_out hb.1 (by omega)]
      cases e : s i with
      | false => rfl
      | true => have := h i e; rw [bset_out hs (by omega)] at this; cases this
  · rw [diff_sub _ hb.1 _ hs]
    intro i hi hi2
    rw [hb.2 i hi] at hi2
    apply h
    have : i = 0 ∨ i = 1 ∨ i = 2 ∨ i = 3 := by omega
    rcases this with rfl | rfl | rfl | rfl <;> simpa using hi2
theorem pow_16 {n sub : Nat} (hn : n ≤ 4) (hs : sub < 2 ^ n) : sub < 16 := by
  have : 2 ^ n ≤ 2 ^ 4 := Nat.pow_le_pow_right (by omega) hn
  omega
/-- The best, told by what all sets lack. -/
theorem worst_best {m : Market} (hok : m.Ok) (hands wants : List Int) {sub : Nat} (hs : sub < 2 ^ m.shops.length) (fro : Nat) (h0 : lackR m hands wants (listL 0 m.shops.length) fro < 1) :
    Best (fun s => lackR m hands wants s fro) (fun l => ∃ b, b < 16 ∧ bitDiff b sub = 0 ∧ l = listL b m.shops.length) (worstR m hands wants (listL sub m.shops.length) fro) := by
  have hls := hok.ls
  have hs16 := pow_16 hls hs
  have h1 := best_top (f := fun s => lackR m hands wants s fro) (sets_pairwise m.shops.length (by omega) sub hs16 hs) (fun l hl => by
    rw [sets_zero m.shops.length (by omega) sub hs16 hs] at hl
    cases hl
    exact h0) _ (Nat.le_refl _)
  rw [List.take_length] at h1
  have hiff : ∀ l, l ∈ setsL (listL sub m.shops.length) ↔ (∃ b, b < 16 ∧ bitDiff b sub = 0 ∧ l = listL b m.shops.length) := fun l =>
    ⟨fun h => by obtain ⟨b, hb, h1, h2⟩ := sets_in m.shops.length (by omega) sub hs16 hs l h; exact ⟨b, hb, h1, h2⟩, fun ⟨b, hb, h1, h2⟩ => h2 ▸ sets_all m.shops.length (by omega) sub hs16 hs b hb h1⟩
  rcases h1 with ⟨e, a⟩ | ⟨l, c, e, b, a⟩
  · exact .inl ⟨e, fun l hl => a l ((hiff l).2 hl)⟩
  · exact .inr ⟨l, (hiff l).1 c, e, b, fun c' hc => a c' ((hiff c').2 hc)⟩
theorem lack_empty {m : Market} (hok : m.Ok) {hands : List Int} (wants : List Int) (hh : ∀ z ∈ hands, 0 ≤ z) (fro : Nat) : lackR m hands wants (listL 0 m.shops.length) fro = 0 := by
  rw [lackR_lk hok]
  unfold lk
  have e1 : sumN m.shops.length (fun i => if bset 0 i then wants.getD i 0 else 0) = 0 := by
    rw [sumN_congr (g := fun _ => 0) _ fun i _ => by simp [bset, bit]]; exact sumN_zero _
  have e2 : sumN m.rooms.length (fun r => min (hands.getD r 0) (capR (trs m fro) (bset 0) r)) = 0 := by
    rw [sumN_congr (g := fun _ => 0) _ fun r _ => by rw [capR_none]; have := getD_nn hh r; omega]; exact sumN_zero _
  rw [e1, e2]; rfl
theorem served_iff {m : Market} (hok : m.Ok) {hands : List Int} (wants : List Int) (hh : ∀ z ∈ hands, 0 ≤ z) {sub : Nat} (hs : sub < 2 ^ m.shops.length) (fro : Nat) :
    (worstR m hands wants (listL sub m.shops.length) fro).2 = 0 ↔ NoLack m.rooms.length m.shops.length (trs m fro) (gD hands) (gD wants) (bset sub) := by
  have hs16 := pow_16 hok.ls hs
  have hb := worst_best hok hands wants hs fro (by rw [lack_empty hok wants hh]; omega)
  constructor
  · intro h s hsub
    obtain ⟨b, hb16, hbs, hbd⟩ := sub_bits hs16 hsub
    rw [← hbs]
    have e := lackR_lk hok hands wants b fro
    rcases hb with ⟨_, a⟩ | ⟨l, _, e2, h1, _⟩
    · have := a (listL b m.shops.length) ⟨b, hb16, hbd, rfl⟩
      dsimp only at this
      rw [e] at this
      show lk _ _ _ (fun r => hands.getD r 0) (fun i => wants.getD i 0) _ ≤ 0
      omega
    · rw [e2] at h; dsimp only at h h1; omega
  · intro h
    rcases hb with ⟨e, _⟩ | ⟨l, ⟨b, hb16, hbd, rfl⟩, e2, h1, _⟩
    · rw [e]
    · have := h (bset b) ((bset_sub hb16 hs16).1 hbd)
      dsimp only at h1
      rw [lackR_lk hok] at h1
      exact absurd (show lk _ _ _ (fun r => hands.getD r 0) (fun i => wants.getD i 0) _ ≤ 0 from this) (by omega)
/-! ### Trains, one by one -/
theorem trsTo_cons {m : Market} {i : Nat} (hi : i < m.trains.length) : ∀ k, i < k → k ≤ m.trains.length → trsTo m i k = (if leaves m m.trains[i] then [toTr m.trains[i]] else []) ++ trsTo m (i + 1) k
  | 0, h, _ => by omega
  | k + 1, h, hk => by
    simp only [trsTo, List.getElem?_eq_getElem (show k < m.trains.length by omega)]
    by_cases e : i = k
    · subst e
      have h0 : ∀ (f j : Nat), j ≤ f → trsTo m f j = [] := by
        intro f j
        induction j with
        | zero => intro _; rfl
        | succ j ih =>
          intro hj
          unfold trsTo
          cases m.trains[j]? with
          | none => exact ih (by omega)
          | some t => dsimp only; rw [if_neg (by omega)]; exact ih (by omega)
      rw [h0 i i (Nat.le_refl _), h0 (i + 1) i (by omega), if_neg (show ¬ (i + 1 ≤ i ∧ leaves m m.trains[i] = true) by omega)]
      by_cases hl : leaves m m.trains[i] = true
      · rw [if_pos ⟨Nat.le_refl _, hl⟩, if_pos hl]; rfl
      · rw [if_neg (fun h => hl h.2), if_neg hl]; rfl
    · have ih := trsTo_cons hi k (by omega) (by omega)
      rw [ih]
      generalize (if leaves m m.trains[i] = true then [toTr m.trains[i]] else []) = P
      by_cases hl : leaves m m.trains[k] = true
      · rw [if_pos ⟨by omega, hl⟩, if_pos ⟨by omega, hl⟩, List.append_assoc]
      · rw [if_neg (fun h => hl h.2), if_neg (fun h => hl h.2)]
theorem trs_cons {m : Market} {i : Nat} (hi : i < m.trains.length) : trs m i = (if leaves m m.trains[i] then [toTr m.trains[i]] else []) ++ trs m (i + 1) := trsTo_cons hi _ hi (Nat.le_refl _)
theorem lk_skip {R S : Nat} {t : Tr} {T : List Tr} {h w : Nat → Int} {s : Nat → Bool} (hs : s t.shop = false) : lk R S (t :: T) h w s = lk R S T h w s := by
  unfold lk
  congr 1
  refine sumN_congr R fun r _ => ?_
  rw [capR_cons, if_neg (by simp [hs])]; simp
def subAt (l : List Int) (i : Nat) (n : Int) : List Int := l.set i (l.getD i 0 - n)
theorem subAt_len (l : List Int) (i : Nat) (n : Int) : (subAt l i n).length = l.length := by simp [subAt]
theorem subAt_put {l : List Int} {i : Nat} (n : Int) (hi : i < l.length) : gD (subAt l i n) = put (gD l) i (gD l i - n) := by
  funext j
  unfold gD subAt put
  by_cases e : j = i
  · subst e; rw [if_pos rfl, getD_set hi]
  · rw [if_neg e, getD_other (Ne.symm e)]
theorem subAt_in {l : List Int} {i : Nat} {n b : Int} (h : ∀ z ∈ l, 0 ≤ z ∧ z ≤ b) (hn : 0 ≤ n) (hle : n ≤ gD l i) : ∀ z ∈ subAt l i n, 0 ≤ z ∧ z ≤ b := by
  intro z hz
  rcases List.mem_or_eq_of_mem_set hz with h1 | h1
  · exact h z h1
  · have hg : gD l i ≤ max 0 b := by
      unfold gD
      by_cases hl : i < l.length
      · have := h _ (List.getElem_mem hl); simp [List.getD, hl]; omega
      · simp [List.getD, hl]; omega
    have hb : 0 ≤ b ∨ l = [] := by
      cases l with
      | nil => exact .inr rfl
      | cons y _ => have := h y (.head _); left; omega
    rcases hb with hb | hb
    · unfold gD at hle hg; omega
    · subst hb; simp [subAt] at hz
/-- Fine: what is left is not below 0, and no shops lack anything by the trains from i on. -/
structure FineS (m : Market) (sub i : Nat) (h w : List Int) : Prop where
  hl : h.length = m.rooms.length
  wl : w.length = m.shops.length
  hn : ∀ z ∈ h, 0 ≤ z ∧ z ≤ 200
  wn : ∀ z ∈ w, 0 ≤ z ∧ z ≤ 60
  no : NoLack m.rooms.length m.shops.length (trs m i) (gD h) (gD w) (bset sub)
def okAt (m : Market) (shops h w : List Int) (i : Nat) (t : Train) (n : Nat) : Bool := decide ((worstR m (subAt h t.room.toNat n) (subAt w t.shop.toNat n) shops (i + 1)).2 = 0)
def firstN (p : Nat → Bool) : Nat → Nat → Nat
  | n, 0 => n
  | n, k + 1 => if p n then n else firstN p (n + 1) k
theorem firstN_spec {p : Nat → Bool} : ∀ (k n : Nat), (∃ q, n ≤ q ∧ q < n + k ∧ p q = true) → p (firstN p n k) = true ∧ n ≤ firstN p n k ∧ (∀ q, n ≤ q → q < firstN p n k → p q = false) ∧ ∀ q, n ≤ q → p q = true → firstN p n k ≤ q
  | 0, n, h => by obtain ⟨q, h1, h2, _⟩ := h; omega
  | k + 1, n, h => by
    unfold firstN
    by_cases hn : p n = true
    · rw [if_pos hn]; exact ⟨hn, Nat.le_refl _, fun q h1 h2 => by omega, fun q h1 _ => h1⟩
    · rw [if_neg hn]
      obtain ⟨q, h1, h2, h3⟩ := h
      have hne : q ≠ n := fun e => hn (e ▸ h3)
      obtain ⟨a, b, c, d⟩ := firstN_spec k (n + 1) ⟨q, by omega, by omega, h3⟩
      refine ⟨a, by omega, fun q' h4 h5 => ?_, fun q' h4 h5 => ?_⟩
      · by_cases e : q' = n
        · subst e; simpa using hn
        · exact c q' (by omega) h5
      · have : q' ≠ n := fun e => hn (e ▸ h5)
        exact d q' (by omega) h5
def goesS (m : Market) (shops : List Int) (t : Train) : Bool := leaves m t && hasI shops t.shop
def nAt (m : Market) (shops h w : List Int) (i : Nat) (t : Train) : Nat := if goesS m shops t then firstN (okAt m shops h w i t) 0 61 else 0
theorem goesS_iff {m : Market} (hok : m.Ok) {sub : Nat} {t : Train} (ht : t ∈ m.trains) : goesS m (listL sub m.shops.length) t = true ↔ leaves m t = true ∧ bset sub t.shop.toNat = true := by
  have hh := hasI_listL sub m.shops.length t.shop
  have htt := hok.train t ht
  unfold goesS
  rw [Bool.and_eq_true, hh]
  constructor
  · rintro ⟨h1, _, _, h2⟩; exact ⟨h1, by unfold bset; exact decide_eq_true h2⟩
  · rintro ⟨h1, h2⟩; exact ⟨h1, by omega, by omega, of_decide_eq_true h2⟩
theorem fine_served {m : Market} (hok : m.Ok) {sub i : Nat} {h w : List Int} (hs : sub < 2 ^ m.shops.length) (hf : FineS m sub i h w) : (worstR m h w (listL sub m.shops.length) i).2 = 0 :=
  (served_iff hok w (fun z hz => (hf.hn z hz).1) hs i).2 hf.no
/-- A train that goes to one of the shops: some number is fine. -/
theorem some_ok {m : Market} (hok : m.Ok) {sub i : Nat} {h w : List Int} (hs : sub < 2 ^ m.shops.length) (hf : FineS m sub i h w) (hi : i < m.trains.length) (hg : goesS m (listL sub m.shops.length) m.trains[i] = true) :
    ∃ n : Nat, (n : Int) ≤ m.trains[i].cap ∧ (n : Int) ≤ gD h m.trains[i].room.toNat ∧ (n : Int) ≤ gD w m.trains[i].shop.toNat ∧ okAt m (listL sub m.shops.length) h w i m.trains[i] n = true := by
  have ht := List.getElem_mem hi
  have htt := hok.train _ ht
  obtain ⟨hlv, hsub⟩ := (goesS_iff hok ht).1 hg
  have hno := hf.no
  rw [trs_cons hi, if_pos hlv] at hno
  have hgn : ∀ r, 0 ≤ gD h r := fun r => getD_nn (fun z hz => (hf.hn z hz).1) r
  have hwn : ∀ r, 0 ≤ gD w r := fun r => getD_nn (fun z hz => (hf.wn z hz).1) r
  obtain ⟨n, h1, h2, h3, h4⟩ := one_train (R := m.rooms.length) (S := m.shops.length) (t := toTr m.trains[i]) (T := trs m (i + 1)) (h := gD h) (w := gD w) (sh := bset sub) (by simp only [toTr]; omega) (by simp only [toTr]; omega) (by simp only [toTr]; omega)
    (fun u hu => (trs_fine hok hu).2.2.1) hgn hwn hsub hno
  refine ⟨n, h1, h2, h3, ?_⟩
  unfold okAt
  have h2' : (n : Int) ≤ gD h m.trains[i].room.toNat := h2
  rw [decide_eq_true_eq, served_iff hok _ (fun z hz => (subAt_in hf.hn (by omega) h2' z hz).1) hs, subAt_put _ (by rw [hf.hl]; omega), subAt_put _ (by rw [hf.wl]; omega)]
  exact h4
/-- What is left behind a train. -/
def nextH (m : Market) (shops h w : List Int) (i : Nat) (t : Train) : List Int := if goesS m shops t then subAt h t.room.toNat (nAt m shops h w i t) else h
def nextW (m : Market) (shops h w : List Int) (i : Nat) (t : Train) : List Int := if goesS m shops t then subAt w t.shop.toNat (nAt m shops h w i t) else w
theorem nAt_spec {m : Market} (hok : m.Ok) {sub i : Nat} {h w : List Int} (hs : sub < 2 ^ m.shops.length) (hf : FineS m sub i h w) (hi : i < m.trains.length) (hg : goesS m (listL sub m.shops.length) m.trains[i] = true) :
    okAt m (listL sub m.shops.length) h w i m.trains[i] (nAt m (listL sub m.shops.length) h w i m.trains[i]) = true ∧ (∀ q < nAt m (listL sub m.shops.length) h w i m.trains[i], okAt m (listL sub m.shops.length) h w i m.trains[i] q = false) ∧
    ((nAt m (listL sub m.shops.length) h w i m.trains[i] : Nat) : Int) ≤ m.trains[i].cap ∧ ((nAt m (listL sub m.shops.length) h w i m.trains[i] : Nat) : Int) ≤ gD h m.trains[i].room.toNat ∧ ((nAt m (listL sub m.shops.length) h w i m.trains[i] : Nat) : Int) ≤ gD w m.trains[i].shop.toNat := by
  have htt := hok.train _ (List.getElem_mem hi)
  obtain ⟨n, h1, h2, h3, h4⟩ := some_ok hok hs hf hi hg
  have hsp := firstN_spec (p := okAt m (listL sub m.shops.length) h w i m.trains[i]) 61 0 ⟨n, by omega, by omega, h4⟩
  have e : nAt m (listL sub m.shops.length) h w i m.trains[i] = firstN (okAt m (listL sub m.shops.length) h w i m.trains[i]) 0 61 := by unfold nAt; rw [if_pos hg]
  rw [e]
  have hle := hsp.2.2.2 n (by omega) h4
  exact ⟨hsp.1, fun q hq => hsp.2.2.1 q (by omega) hq, by omega, by omega, by omega⟩
theorem fine_next {m : Market} (hok : m.Ok) {sub i : Nat} {h w : List Int} (hs : sub < 2 ^ m.shops.length) (hf : FineS m sub i h w) (hi : i < m.trains.length) :
    FineS m sub (i + 1) (nextH m (listL sub m.shops.length) h w i m.trains[i]) (nextW m (listL sub m.shops.length) h w i m.trains[i]) := by
  have ht := List.getElem_mem hi
  have htt := hok.train _ ht
  by_cases hg : goesS m (listL sub m.shops.length) m.trains[i] = true
  · obtain ⟨h1, _, h3, h4, h5⟩ := nAt_spec hok hs hf hi hg
    unfold nextH nextW
    rw [if_pos hg, if_pos hg]
    have hh := subAt_in hf.hn (by omega) h4
    refine ⟨by rw [subAt_len]; exact hf.hl, by rw [subAt_len]; exact hf.wl, hh, subAt_in hf.wn (by omega) h5, ?_⟩
    unfold okAt at h1
    rw [decide_eq_true_eq, served_iff hok _ (fun z hz => (hh z hz).1) hs] at h1
    exact h1
  · unfold nextH nextW
    rw [if_neg hg, if_neg hg]
    refine ⟨hf.hl, hf.wl, hf.hn, hf.wn, fun s hss => ?_⟩
    have h1 := hf.no s hss
    rw [trs_cons hi] at h1
    by_cases hlv : leaves m m.trains[i] = true
    · rw [if_pos hlv] at h1
      have hsf : s m.trains[i].shop.toNat = false := by
        cases e : s m.trains[i].shop.toNat with
        | false => rfl
        | true => exact absurd ((goesS_iff hok ht).2 ⟨hlv, hss _ e⟩) hg
      rw [show ([toTr m.trains[i]] ++ trs m (i + 1)) = toTr m.trains[i] :: trs m (i + 1) from rfl, lk_skip (by exact hsf)] at h1
      exact h1
    · rw [if_neg hlv] at h1; exact h1
/-- Train by train, from i on. -/
def greedy (m : Market) (shops : List Int) : Nat → Nat → List Int → List Int → List Int
  | 0, _, _, _ => []
  | rem + 1, i, h, w => match m.trains[i]? with
    | some t => (nAt m shops h w i t : Int) :: greedy m shops rem (i + 1) (nextH m shops h w i t) (nextW m shops h w i t)
    | none => []
/-- What has been given and what is left, behind i trains. -/
def giveTo (m : Market) (shops : List Int) : Nat → List Int × List Int × List Int
  | 0 => ([], leastL m, wantsL m)
  | i + 1 => match m.trains[i]? with
    | some t => ((giveTo m shops i).1 ++ [(nAt m shops (giveTo m shops i).2.1 (giveTo m shops i).2.2 i t : Int)], nextH m shops (giveTo m shops i).2.1 (giveTo m shops i).2.2 i t, nextW m shops (giveTo m shops i).2.1 (giveTo m shops i).2.2 i t)
    | none => giveTo m shops i
theorem giveTo_succ {m : Market} {shops : List Int} {i : Nat} (hi : i < m.trains.length) : giveTo m shops (i + 1) = ((giveTo m shops i).1 ++ [(nAt m shops (giveTo m shops i).2.1 (giveTo m shops i).2.2 i m.trains[i] : Int)], nextH m shops (giveTo m shops i).2.1 (giveTo m shops i).2.2 i m.trains[i], nextW m shops (giveTo m shops i).2.1 (giveTo m shops i).2.2 i m.trains[i]) := by
  simp only [giveTo, List.getElem?_eq_getElem hi]
theorem giveTo_len {m : Market} {shops : List Int} : ∀ i, i ≤ m.trains.length → (giveTo m shops i).1.length = i
  | 0, _ => rfl
  | i + 1, h => by have ih := giveTo_len (m := m) (shops := shops) i (by omega); rw [giveTo_succ (by omega)]; simp [ih]
theorem giveTo_greedy {m : Market} {shops : List Int} : ∀ (rem i : Nat), i + rem = m.trains.length → (giveTo m shops m.trains.length).1 = (giveTo m shops i).1 ++ greedy m shops rem i (giveTo m shops i).2.1 (giveTo m shops i).2.2
  | 0, i, h => by
    have : i = m.trains.length := by omega
    subst this; simp [greedy]
  | rem + 1, i, h => by
    have hi : i < m.trains.length := by omega
    rw [giveTo_greedy rem (i + 1) (by omega), giveTo_succ hi]
    simp only [greedy, List.getElem?_eq_getElem hi]
    simp
theorem fine_start {m : Market} (hok : m.Ok) {sub : Nat} (hs : sub < 2 ^ m.shops.length) (h : servedR m (leastL m) (listL sub m.shops.length) = true) : FineS m sub 0 (leastL m) (wantsL m) := by
  have hnn := handsL_nn hok false
  simp only [handsL, Bool.false_eq_true, if_false] at hnn
  refine ⟨by simp [leastL], wantsL_len m, fun z hz => ?_, fun z hz => ?_, ?_⟩
  · obtain ⟨r, hr, rfl⟩ := List.mem_map.1 hz; have := hok.room r hr; omega
  · obtain ⟨r, hr, rfl⟩ := List.mem_map.1 hz; have := hok.shop r hr; omega
  · unfold servedR at h
    rw [decide_eq_true_eq, served_iff hok _ hnn hs] at h
    exact h
theorem fine_to {m : Market} (hok : m.Ok) {sub : Nat} (hs : sub < 2 ^ m.shops.length) (h : servedR m (leastL m) (listL sub m.shops.length) = true) : ∀ i, i ≤ m.trains.length → FineS m sub i (giveTo m (listL sub m.shops.length) i).2.1 (giveTo m (listL sub m.shops.length) i).2.2
  | 0, _ => fine_start hok hs h
  | i + 1, hi => by
    have ih := fine_to hok hs h i (by omega)
    rw [giveTo_succ (by omega)]
    exact fine_next hok hs ih (by omega)
end Go.Rt.Sh
/- Plain laws of the shop layer: what the reference gives, train by train, is the first of the program's loads. No conditions. -/
set_option linter.unusedSimpArgs false
set_option linter.unusedVariables false
namespace Go.Rt.Sh
theorem packX_len (h w : List Int) (f : Nat) : (packX h w f).length = 8 := rfl
theorem packX_setH {h w : List Int} {f r : Nat} {z : Int} (hr : r < 3) (hl : r < h.length) : packX (h.set r z) w f = (packX h w f).set r z := packX_set hr hl
theorem packX_setW {h w : List Int} {f s : Nat} {z : Int} (hs : s < 4) (hl : s < w.length) : packX h (w.set s z) f = (packX h w f).set (3 + s) z := by
  refine ext_getD (by simp [packX]) fun i hi => ?_
  have hi8 : i < 8 := hi
  by_cases h3 : 3 ≤ i ∧ i < 7
  · obtain ⟨j, rfl⟩ : ∃ j, i = 3 + j := ⟨i - 3, by omega⟩
    rw [packX_want _ _ _ (by omega)]
    by_cases e : s = j
    · subst e
      rw [getD_set hl, getD_set (by rw [packX_len]; omega)]
    · rw [getD_other e, getD_other (by omega), packX_want _ _ _ (by omega)]
  · rw [getD_other (x := packX h w f) (by omega)]
    have : i = 0 ∨ i = 1 ∨ i = 2 ∨ i = 7 := by omega
    rcases this with rfl | rfl | rfl | rfl <;> rfl
theorem packX_at7 (h w : List Int) (f : Nat) : (packX h w f).getD 7 0 = f := rfl
theorem packX_next (h w : List Int) (f : Nat) : (packX h w f).set 7 ((packX h w f).getD 7 0 + 1) = packX h w (f + 1) := by
  simp [packX]
theorem nextX_pack {m : Market} (hok : m.Ok) {h w : List Int} {i : Nat} {t : Train} (ht : t ∈ m.trains) (hl : h.length = m.rooms.length) (wl : w.length = m.shops.length) (n : Int) : nextX (packX h w i) t n = packX (subAt h t.room.toNat n) (subAt w t.shop.toNat n) (i + 1) := by
  have htt := hok.train t ht
  have hlr := hok.lr
  have hls := hok.ls
  have e1 : nx1 (packX h w i) = packX h w (i + 1) := packX_next h w i
  have e2 : nx2 (packX h w i) t.room.toNat n = packX (subAt h t.room.toNat n) w (i + 1) := by
    unfold nx2 subAt
    rw [e1, packX_setH (by omega) (by omega), packX_hand _ _ _ (by omega)]
  unfold nextX
  rw [e2, packX_want _ _ _ (by omega)]
  conv => rhs; rw [subAt.eq_def w]
  rw [packX_setW (by omega) (by omega)]
theorem served_pack {m : Market} (hok : m.Ok) {h w : List Int} (hl : h.length = m.rooms.length) (wl : w.length = m.shops.length) (hn : ∀ z ∈ h, 0 ≤ z) (wn : ∀ z ∈ w, 0 ≤ z) {sub : Nat} (hs : sub < 2 ^ m.shops.length) (i : Nat) : servedS m (packX h w i) sub = decide ((worstR m h w (listL sub m.shops.length) i).2 = 0) := by
  unfold servedS; rw [worst_same hok hl wl hn wn hs]
theorem subAt_zero (l : List Int) (i : Nat) : subAt l i 0 = l := by
  unfold subAt
  apply List.ext_getElem (by simp)
  intro j h1 h2
  rw [List.getElem_set]
  split
  · rename_i e; subst e; simp [List.getD, h2]
  · rfl
theorem flat_first {α : Type} {f : Nat → List α} {n : Nat} : ∀ (k : Nat), n < k → (∀ q < n, f q = []) → (f n ≠ []) → ((List.range k).flatMap f).head? = (f n).head?
  | 0, h, _, _ => by omega
  | k + 1, h, h0, hn => by
    rw [List.range_succ, List.flatMap_append]
    by_cases e : n = k
    · subst e
      have : (List.range n).flatMap f = [] := by
        rw [List.flatMap_eq_nil_iff]
        intro q hq; rw [List.mem_range] at hq; exact h0 q hq
      rw [this]; simp
    · have ih := flat_first k (by omega) h0 hn
      rw [List.head?_append, ih]
      cases e2 : (f n).head? with
      | none => exact absurd (List.head?_eq_none_iff.1 e2) hn
      | some x => rfl
/-- The first of the loads that the program yields is the greedy one. -/
theorem loads_first {m : Market} (hok : m.Ok) {sub : Nat} (hs : sub < 2 ^ m.shops.length) : ∀ (rem i : Nat) (h w : List Int), i + rem = m.trains.length → FineS m sub i h w → (loadsX m sub rem (packX h w i)).head? = some (greedy m (listL sub m.shops.length) rem i h w)
  | 0, i, h, w, _, _ => rfl
  | rem + 1, i, h, w, hir, hf => by
    have hi : i < m.trains.length := by omega
    have ht := List.getElem_mem hi
    have htt := hok.train _ ht
    have hlr := hok.lr
    have hls := hok.ls
    have hnx := fine_next hok hs hf hi
    have ih := loads_first hok hs rem (i + 1) _ _ (by omega) hnx
    have hgl := goesS_iff hok (sub := sub) ht
    have hnn : ∀ z ∈ h, 0 ≤ z := fun z hz => (hf.hn z hz).1
    have hwn : ∀ z ∈ w, 0 ≤ z := fun z hz => (hf.wn z hz).1
    have e7 : m.trains[((packX h w i).getD 7 0).toNat]? = some m.trains[i] := by
      rw [packX_at7, Int.toNat_natCast, List.getElem?_eq_getElem hi]
    have hmost : (nAt m (listL sub m.shops.length) h w i m.trains[i] : Int) ≤ mostX m sub (packX h w i) m.trains[i] ∧ (∀ q : Nat, q ≤ nAt m (listL sub m.shops.length) h w i m.trains[i] → (q : Int) ≤ gD h m.trains[i].room.toNat ∧ (q : Int) ≤ gD w m.trains[i].shop.toNat) ∧
        (nextH m (listL sub m.shops.length) h w i m.trains[i] = subAt h m.trains[i].room.toNat (nAt m (listL sub m.shops.length) h w i m.trains[i]) ∧ nextW m (listL sub m.shops.length) h w i m.trains[i] = subAt w m.trains[i].shop.toNat (nAt m (listL sub m.shops.length) h w i m.trains[i])) ∧
        ∀ q < nAt m (listL sub m.shops.length) h w i m.trains[i], okAt m (listL sub m.shops.length) h w i m.trains[i] q = false := by
      by_cases hg : goesS m (listL sub m.shops.length) m.trains[i] = true
      · obtain ⟨_, h2, h3, h4, h5⟩ := nAt_spec hok hs hf hi hg
        obtain ⟨g1, g2⟩ := hgl.1 hg
        refine ⟨?_, fun q hq => ⟨by omega, by omega⟩, ⟨by unfold nextH; rw [if_pos hg], by unfold nextW; rw [if_pos hg]⟩, h2⟩
        rw [mostX_yes g1 (of_decide_eq_true g2), packX_hand _ _ _ (by omega), packX_want _ _ _ (by omega)]
        unfold gD at h4 h5
        omega
      · have e0 : nAt m (listL sub m.shops.length) h w i m.trains[i] = 0 := by unfold nAt; rw [if_neg hg]
        rw [e0]
        refine ⟨?_, fun q hq => ?_, ⟨by unfold nextH; rw [if_neg hg]; exact (subAt_zero _ _).symm, by unfold nextW; rw [if_neg hg]; exact (subAt_zero _ _).symm⟩, fun q hq => by omega⟩
        · rw [mostX_no]
          · simp
          · by_cases hl : leaves m m.trains[i] = true
            · right; intro hb; exact hg (hgl.2 ⟨hl, by unfold bset; exact decide_eq_true hb⟩)
            · left; simpa using hl
        · have : q = 0 := by omega
          subst this
          exact ⟨getD_nn hnn _, getD_nn hwn _⟩
    obtain ⟨hm1, hm2, ⟨hm3, hm4⟩, hm5⟩ := hmost
    have hsv : ∀ q : Nat, q ≤ nAt m (listL sub m.shops.length) h w i m.trains[i] → servedS m (nextX (packX h w i) m.trains[i] q) sub = okAt m (listL sub m.shops.length) h w i m.trains[i] q := by
      intro q hq
      obtain ⟨a1, a2⟩ := hm2 q hq
      rw [nextX_pack hok ht hf.hl hf.wl, served_pack hok (by rw [subAt_len]; exact hf.hl) (by rw [subAt_len]; exact hf.wl) (fun z hz => (subAt_in hf.hn (by omega) a1 z hz).1) (fun z hz => (subAt_in hf.wn (by omega) a2 z hz).1) hs]
      rfl
    have hok1 : okAt m (listL sub m.shops.length) h w i m.trains[i] (nAt m (listL sub m.shops.length) h w i m.trains[i]) = true := by
      unfold okAt
      rw [← hm3, ← hm4, decide_eq_true_eq]
      exact fine_served hok hs hnx
    simp only [loadsX, e7, greedy, List.getElem?_eq_getElem hi]
    rw [flat_first (n := nAt m (listL sub m.shops.length) h w i m.trains[i]) _ (by omega) (fun q hq => by rw [hsv q (by omega), hm5 q hq]; rfl)]
    · rw [hsv _ (Nat.le_refl _), hok1, if_pos rfl, List.head?_map, nextX_pack hok ht hf.hl hf.wl, ← hm3, ← hm4, ih]; rfl
    · rw [hsv _ (Nat.le_refl _), hok1, if_pos rfl, nextX_pack hok ht hf.hl hf.wl, ← hm3, ← hm4]
      intro e
      rw [List.map_eq_nil_iff] at e
      rw [e] at ih; cases ih
theorem sub_list : ∀ n < 5, ∀ b < 16, b < 2 ^ n → giveSub (1 <<< n - 1) (listL b n) = bitDiff (1 <<< n - 1) b := by decide +kernel
/-- The set of those that are served. -/
theorem without_sub {m : Market} (hok : m.Ok) : ∃ b < 2 ^ m.shops.length, withoutL m = listL b m.shops.length ∧ othersTo (withoutL m) m.shops.length = listL (giveSub (1 <<< m.shops.length - 1) (withoutL m)) m.shops.length ∧ giveSub (1 <<< m.shops.length - 1) (withoutL m) < 2 ^ m.shops.length ∧ servedR m (leastL m) (othersTo (withoutL m) m.shops.length) = true := by
  have hls := hok.ls
  have hn := others_nil m.shops.length (by omega)
  obtain ⟨h1, h2, _⟩ := withoutTo_min hok _ (Nat.le_refl _)
  have hb : ∃ b < 2 ^ m.shops.length, withoutL m = listL b m.shops.length := by
    rcases h1 with e | ⟨b, hb, e⟩
    · exact ⟨_, hn.2.1, e⟩
    · exact ⟨b, by omega, e⟩
  obtain ⟨b, hb, e⟩ := hb
  have h16 := pow_16 hls hb
  have ho := others_list m.shops.length (by omega) b h16 hb
  refine ⟨b, hb, e, ?_, ?_, h2⟩
  · rw [e, ho.1, sub_list m.shops.length (by omega) b h16 hb]
  · rw [e, sub_list m.shops.length (by omega) b h16 hb]; exact ho.2
def giveR (m : Market) : List Int × Int := if (withoutR m).2 ≠ 0 then ([], (withoutR m).2) else ((giveTo m (othersTo (withoutR m).1 m.shops.length) m.trains.length).1, 0)
theorem giveTo_giveL {m : Market} (hok : m.Ok) : (giveTo m (othersTo (withoutL m) m.shops.length) m.trains.length).1 = giveL m := by
  obtain ⟨b, hb, e, e1, e2, h2⟩ := without_sub hok
  rw [e1] at h2 ⊢
  have hf := fine_start hok e2 h2
  have hfi := loads_first hok e2 m.trains.length 0 _ _ (by omega) hf
  have hg := giveTo_greedy (m := m) (shops := listL (giveSub (1 <<< m.shops.length - 1) (withoutL m)) m.shops.length) m.trains.length 0 (by omega)
  have hx := allX_pack hok false
  simp only [handsL, Bool.false_eq_true, if_false] at hx
  unfold giveL allLoads
  rw [hx]
  cases hL : loadsX m (giveSub (1 <<< m.shops.length - 1) (withoutL m)) m.trains.length (packX (leastL m) (wantsL m) 0) with
  | nil => rw [hL] at hfi; cases hfi
  | cons l R =>
    rw [hL] at hfi
    have e3 : l = greedy m (listL (giveSub (1 <<< m.shops.length - 1) (withoutL m)) m.shops.length) m.trains.length 0 (leastL m) (wantsL m) := by simpa using hfi
    have hlen := (loads_len (m := m) (sub := giveSub (1 <<< m.shops.length - 1) (withoutL m)) m.trains.length (packX (leastL m) (wantsL m) 0) l (by rw [hL]; exact .head _)).1
    rw [hg]
    simp only [List.map_cons]
    show [] ++ greedy m _ _ 0 (leastL m) (wantsL m) = (pad6 l).take m.trains.length
    rw [← e3]
    unfold pad6
    rw [List.take_append_of_le_length (by omega), List.take_of_length_le (by omega)]; rfl
theorem give_same (m : Market) : giveR m = giveP m := by
  unfold giveR giveP
  rw [without_same]
  by_cases h : (check m).2.2 = 0
  · have hne : ¬ ((check m).2.2 ≠ 0) := by simp [h]
    have e : withoutP m = (withoutL m, 0) := by unfold withoutP; rw [if_neg hne]
    rw [e, if_neg hne, if_neg (by simp)]
    show ((giveTo m (othersTo (withoutL m) m.shops.length) m.trains.length).1, (0 : Int)) = (giveL m, 0)
    rw [giveTo_giveL (check_ok h)]
  · have e : withoutP m = ([], (check m).2.2) := by unfold withoutP; rw [if_pos h]
    rw [e, if_pos h, if_pos h]
end Go.Rt.Sh
namespace Go.Rt.Sh
theorem topTo_nn (f : List Int → Int) (all : List (List Int)) : ∀ k, 0 ≤ (topTo f all k).2
  | 0 => by simp [topTo]
  | k + 1 => by
    have ih := topTo_nn f all k
    simp only [topTo]
    split
    · simp
    · cases e : all[k]? with
      | none => exact ih
      | some l =>
        dsimp only [topStep]
        split
        · show 0 ≤ f l; omega
        · exact ih
theorem worstR_nn (m : Market) (hands wants shops : List Int) (fro : Nat) : 0 ≤ (worstR m hands wants shops fro).2 := topTo_nn _ _ _
theorem withoutR_ok {m : Market} (h : (withoutR m).2 = 0) : (check m).2.2 = 0 ∧ (withoutR m).1 = withoutL m := by
  rw [without_same] at h ⊢
  by_cases h1 : (check m).2.2 = 0
  · have hne : ¬ ((check m).2.2 ≠ 0) := by simp [h1]
    unfold withoutP; rw [if_neg hne]; exact ⟨h1, rfl⟩
  · unfold withoutP at h; rw [if_pos h1] at h; exact absurd h h1
theorem subAt_bound {l : List Int} {i : Nat} {n : Int} (h : ∀ z ∈ l, 0 ≤ z ∧ z ≤ 200) (hn : 0 ≤ n ∧ n ≤ 60) : ∀ z ∈ subAt l i n, -10000 ≤ z ∧ z ≤ 10000 := by
  intro z hz
  rcases List.mem_or_eq_of_mem_set hz with h1 | h1
  · have := h z h1; omega
  · have := getD_in (a := 0) (b := 200) (by omega) (by omega) h i
    omega
theorem subAt_cells {cs : List Value} {l : List Int} {r n : Nat} {z : Int} (hn : l.length = n) (hr : r < l.length) (h : cs.take (n * 1) = iv l) : (cs.set r (.int .i64 (l[r] - z))).take (n * 1) = iv (subAt l r z) := by
  rw [List.take_set, h]
  simp [subAt, iv, List.map_set, List.getD, hr]
theorem give_here {m : Market} {shops : List Int} (hsh : ∃ sub < 2 ^ m.shops.length, shops = listL sub m.shops.length ∧ servedR m (leastL m) shops = true) (hok : m.Ok) {i : Nat} (hi : i ≤ m.trains.length) : ∃ sub, FineS m sub i (giveTo m shops i).2.1 (giveTo m shops i).2.2 := by
  obtain ⟨sub, h1, rfl, h2⟩ := hsh
  exact ⟨sub, fine_to hok h1 h2 i hi⟩
theorem nAt_here {m : Market} {shops : List Int} (hsh : ∃ sub < 2 ^ m.shops.length, shops = listL sub m.shops.length ∧ servedR m (leastL m) shops = true) (hok : m.Ok) {i : Nat} (hi : i < m.trains.length) (hg : goesS m shops m.trains[i] = true) :
    okAt m shops (giveTo m shops i).2.1 (giveTo m shops i).2.2 i m.trains[i] (nAt m shops (giveTo m shops i).2.1 (giveTo m shops i).2.2 i m.trains[i]) = true ∧ nAt m shops (giveTo m shops i).2.1 (giveTo m shops i).2.2 i m.trains[i] ≤ 60 ∧ ∀ q < nAt m shops (giveTo m shops i).2.1 (giveTo m shops i).2.2 i m.trains[i], okAt m shops (giveTo m shops i).2.1 (giveTo m shops i).2.2 i m.trains[i] q = false := by
  obtain ⟨sub, h1, rfl, h2⟩ := hsh
  have htt := hok.train _ (List.getElem_mem hi)
  obtain ⟨a, b, c, _⟩ := nAt_spec hok h1 (fine_to hok h1 h2 i (by omega)) hi hg
  exact ⟨a, by omega, b⟩
theorem shops_here {m : Market} (hok : m.Ok) (h : (withoutR m).1 = withoutL m) : ∃ sub < 2 ^ m.shops.length, othersTo (withoutR m).1 m.shops.length = listL sub m.shops.length ∧ servedR m (leastL m) (othersTo (withoutR m).1 m.shops.length) = true := by
  obtain ⟨b, hb, e, e1, e2, h2⟩ := without_sub hok
  rw [h]
  exact ⟨_, e2, e1, h2⟩
theorem withoutL_len (m : Market) : (withoutL m).length ≤ m.shops.length := withoutTo_len m _
end Go.Rt.Sh
/- Walks of this seat, printed by gen.py over the engine: what each function returns, in whatever world. No conditions but those of each contract. -/
set_option linter.unusedVariables false
set_option linter.unusedSimpArgs false
set_option maxRecDepth 20000
namespace Go.Proofs
open Go.Rt Go.Rt.Sh
attribute [local irreducible] WL WC Con Yd At Ats Sl Agree DW
theorem Try_Y_fb5  (w : World) : (Instr.buildSlice 22 0 [].toArray).run Try.prog w = .ok (.slice (some ⟨w.heap.size, 0, none⟩) 0 0) (w.alloc (Go.Rt.blk 69 [])) := by kernel_rfl
theorem Try_info69 : Try.prog.info? 69 = some Try.t69 := by kernel_rfl
theorem Try_Y_fb7 (x0 : Int) (x1 : Int) (w : World) : (Instr.build 67 [(0, .int .i64 x0), (1, .int .i64 x1)].toArray).run Try.prog w = .ok (.agg #[.int .i64 x0, .int .i64 x1]) w := by kernel_rfl
theorem Try_Y_fb8  (w : World) : (Instr.buildSlice 24 0 [].toArray).run Try.prog w = .ok (.slice (some ⟨w.heap.size, 0, none⟩) 0 0) (w.alloc (Go.Rt.blk 63 [])) := by kernel_rfl
theorem c27 {w0 w : World} {F : List (Nat × Obj)} (m : Market) (p : At3) (hm : MIn w0 F m p)  (hs : St w0 w F) :
  Con Try.prog 27 [.agg (m.cells p).toArray] w fun v w' => ∃ B a c, v = .tuple #[.slice a (withoutR m).1.length c, .int .i64 (withoutR m).2] ∧ Sl w0 B a 1 ((withoutR m).1.map fun x => [Value.int .i64 x]) ∧ St w0 w' (B ++ F) := by
  refine con_of_wc (n := 41) Try.func27 rfl rfl (Nat.le_of_ble_eq_true rfl) ?_
  refine w_seq (fun K2 hK1 => ?_)
  refine w_region ?_
  refine w_box (v := .agg #[.slice _ _ _, .slice _ _ _, .slice _ _ _]) (cs := [_, _, _]) want_none rfl rfl rfl hs (fun b3 w4 hs5 => ?_)
  refine w_pure want_none (y_assign (v := _) rfl rfl) rfl ?_
  refine w_pure want_none (y_assign (v := _) rfl rfl) rfl ?_
  refine w_nil ?_
  refine q_then (hK1 _ _ ?_)
  refine w_seq (fun K7 hK6 => ?_)
  have hbx : Ats w0 ((b3, blk 26 (m.cells p)) :: F) b3 0 (m.cells p) := ats_own (i := 0) (vs := m.cells p) rfl rfl
  refine w_region ?_
  refine w_pure want_none (y_loadN (vs := [_, _, _]) Try.isAgg26 Try.sizeOf26 hs5 rfl rfl hbx) rfl ?_
  refine w_call want_none Try.call17 rfl rfl rfl rfl (c17 m _ hm.cons hs5) ?_
  rintro _ w9 ⟨rfl, hs10⟩
  refine w_pure want_none (y_move (v := .tuple _) rfl rfl) rfl ?_
  refine w_pure want_none (y_extract (v := .int _ _) rfl rfl rfl) rfl ?_
  refine w_pure want_none (y_extract (v := .int _ _) rfl rfl rfl) rfl ?_
  refine w_pure want_none (y_extract (v := .int _ _) rfl rfl rfl) rfl ?_
  refine w_pure want_none (y_assign (v := .int _ _) rfl rfl) rfl ?_
  refine w_pure want_none (y_assign (v := .int _ _) rfl rfl) rfl ?_
  refine w_pure want_none (y_assign (v := .int _ _) rfl rfl) rfl ?_
  refine w_nil ?_
  refine q_then (hK6 _ _ ?_)
  refine w_seq (fun K12 hK11 => ?_)
  refine w_seq (fun K14 hK13 => ?_)
  refine w_region ?_
  refine w_pure want_none (y_move (v := .int _ _) rfl rfl) rfl ?_
  refine w_pure want_none (y_neq rfl rfl rfl rfl) rfl ?_
  refine w_nil ?_
  refine q_then (hK13 _ _ ?_)
  refine w_cond rfl rfl (fun h15 => ?_) (fun h15 => ?_)
  ·
   try simp only [Bool.not_eq_true', Bool.not_eq_false', decide_eq_true_eq, decide_eq_false_iff_not, Int.not_lt, Int.not_le] at h15
   refine w_seq (fun K17 hK16 => ?_)
   refine w_region ?_
   refine w_pure want_none (y_move (v := .int _ _) rfl rfl) rfl ?_
   refine w_pure want_none (y_assign (v := _) rfl rfl) rfl ?_
   refine w_pure want_none (y_assign (v := .int _ _) rfl rfl) rfl ?_
   refine w_nil ?_
   refine q_then (hK16 _ _ ?_)
   refine w_ret ?_
   refine q_then_ret ?_
   refine q_ret (l := [.tmp 2, .tmp 3]) (vs := [_, _]) rfl ⟨⟨rfl, show _ = (.slice _ _ _ : Value) from rfl⟩, ⟨rfl, show _ = (.int _ _ : Value) from rfl⟩, trivial⟩ ?_
   first
     | (have hq : withoutR m = ([], (check m).2.2) := by unfold withoutR; rw [if_pos (by assumption)]
        exact ⟨[], none, 0, by rw [hq]; rfl, by rw [hq]; exact Sl.nil _ _, hs10.tail⟩)
     | (have hq : withoutR m = ((setsL (othersTo [] m.shops.length))[i]'hi2, 0) := by unfold withoutR; rw [if_neg (by simp [hck]), hfw, firstW_here hi2 (by assumption)]
        exact ⟨BO ++ (BL ++ (SB ++ (AB ++ [_]))), b2, c2, by rw [hq]; rfl, by rw [hq]; exact hsx1.top.app.app, by simp only [List.append_assoc]; exact hs10⟩)
     | (have hq : withoutR m = ([], 0) := by unfold withoutR; rw [if_neg (by simp [hck]), hfw, firstW_end (by omega)]
        exact ⟨[], none, 0, by rw [hq]; rfl, by rw [hq]; exact Sl.nil _ _, hs10.tail⟩)
  ·
   try simp only [Bool.not_eq_true', Bool.not_eq_false', decide_eq_true_eq, decide_eq_false_iff_not, Int.not_lt, Int.not_le] at h15
   refine w_skip ?_
   refine q_then (hK11 _ _ ?_)
   refine w_seq (fun K19 hK18 => ?_)
   have hck : (check m).2.2 = 0 := by assumption
   have hok := check_ok hck
   have hls := hok.ls
   have hot := othersTo_len [] m.shops.length
   have hoi := othersTo_in [] m.shops.length
   have hsm := setsL_max (shops := othersTo [] m.shops.length) (by omega)
   refine w_region ?_
   refine w_pure want_none (y_loadN (vs := [_, _, _]) Try.isAgg26 Try.sizeOf26 hs10 rfl rfl hbx) rfl ?_
   refine w_call want_none Try.call48 rfl rfl rfl rfl (c48 m _ hm.cons hok  hs10) ?_
   rintro _ w21 ⟨AB, a_AB, c_AB, rfl, hs_AB, hs22⟩
   replace hs22 := (show St _ _ (AB ++ (_ :: F)) from hs22)
   refine w_call want_none Try.call74 rfl rfl rfl rfl (c74 _ _ (othersTo [] m.shops.length) (by omega) hs_AB.top hs22) ?_
   rintro _ w24 ⟨SB, vs, as2, cs2, rfl, hslS, helS, hs25⟩
   replace hs25 := (show St _ _ (SB ++ (AB ++ (_ :: F))) from hs25)
   refine w_pure want_none (y_assign (v := .slice _ _ _) rfl rfl) rfl ?_
   refine w_nil ?_
   refine q_then (hK18 _ _ ?_)
   refine w_seq (fun K27 hK26 => ?_)
   refine w_seq (fun K29 hK28 => ?_)
   refine w_region ?_
   refine w_pure want_none (y_assign (v := _) rfl rfl) rfl ?_
   refine w_nil ?_
   refine q_then (hK28 _ _ ?_)
   refine w_block ?_
   refine w_loop [2, 3, 8, 21, 22, 23, 24, 25, 26, 27, 28, 29, 30, 31, 32, 33, 34, 35, 36, 37, 38, 39, 40] [8] (fun kk vs0 w => ∃ i : Nat, vs0 = [.int .i64 i] ∧ i ≤ (setsL (othersTo [] m.shops.length)).length ∧ kk = (setsL (othersTo [] m.shops.length)).length - i ∧ firstW m (setsL (othersTo [] m.shops.length)) = firstW m ((setsL (othersTo [] m.shops.length)).drop i) ∧ St w0 w (SB ++ (AB ++ ((b3, blk 26 (m.cells p)) :: F)))) ((setsL (othersTo [] m.shops.length)).length) ?_ ?_
   ·
    exact ⟨0, rfl, by omega, by omega, rfl, hs25⟩
   ·
    intro k vs μ w32 hI K31 hN30
    obtain ⟨i, rfl, hia, rfl, hfw, hs⟩ := hI
    refine w_seq (fun K34 hK33 => ?_)
    refine w_seq (fun K36 hK35 => ?_)
    refine w_region ?_
    refine w_pure want_none (y_move (v := .int _ _) rfl rfl) rfl ?_
    refine w_pure want_none (y_move (v := .slice _ _ _) rfl rfl) rfl ?_
    refine w_pure want_none (y_lenS Try.underlying100 rfl rfl) rfl ?_
    refine w_pure want_none (y_lss rfl rfl rfl rfl) rfl ?_
    refine w_nil ?_
    refine q_then (hK35 _ _ ?_)
    refine w_cond rfl rfl (fun h37 => ?_) (fun h37 => ?_)
    ·
     try simp only [Bool.not_eq_true', Bool.not_eq_false', decide_eq_true_eq, decide_eq_false_iff_not, Int.not_lt, Int.not_le] at h37
     refine w_skip ?_
     refine q_then (hK33 _ _ ?_)
     refine w_seq (fun K39 hK38 => ?_)
     refine w_block ?_
     refine w_seq (fun K41 hK40 => ?_)
     have hi2 : i < (setsL (othersTo [] m.shops.length)).length := by omega
     obtain ⟨bx, ox, b2, c2, hac, hx, hsx1, hnx⟩ := el_at hslS helS hi2
     subst hac
     have hx0 := hx.top (F := AB ++ ((b3, blk 26 (m.cells p)) :: F))
     have hsx0 := hsx1.top (F := AB ++ ((b3, blk 26 (m.cells p)) :: F))
     have hsi := setsL_in (List.getElem_mem hi2)
     have hoi2 := othersTo_in ((setsL (othersTo [] m.shops.length))[i]'hi2) m.shops.length
     have hol2 := othersTo_len ((setsL (othersTo [] m.shops.length))[i]'hi2) m.shops.length
     refine w_draw [] [(0, 1), (1, 1), (3, 1), (4, 0), (5, 0), (6, 0), (7, 1), (2, 2), (8, 2), (9, 2)] Try_mo (by kernel_rfl) hs (fun w42 hs43 => ?_)
     refine d_take rfl want_none rfl hs43 (fun _ hq => (y_loadN (vs := [_, _, _]) Try.isAgg26 Try.sizeOf26 hq.drop.drop rfl rfl hbx)) ?_
     refine d_take rfl want_none rfl hs43 (fun _ hq => (y_loadN (vs := [_, _, _]) Try.isAgg26 Try.sizeOf26 hq.drop.drop rfl rfl hbx)) ?_
     refine d_take rfl want_none rfl hs43 (fun _ hq => (y_loadN (vs := [_, _, _]) Try.isAgg26 Try.sizeOf26 hq.drop.drop rfl rfl hbx)) ?_
     refine d_any rfl want_none rfl (fun _ => (y_move (v := .slice _ _ _) rfl rfl)) ?_
     refine d_any rfl want_none rfl (fun _ => (y_move (v := .int _ _) rfl rfl)) ?_
     refine d_any rfl want_none rfl (fun _ => (y_indexS Try.underlying100 Try.sizeOf30 rfl rfl rfl rfl (i := _) rfl (by omega))) ?_
     refine d_take rfl want_none rfl hs43 (fun _ hq => (y_load1 Try.isAgg30 hq rfl rfl hx0)) ?_
     refine d_eff rfl ?_
     refine w_call want_none Try.call37 rfl rfl rfl rfl (c37 m _ hm.cons.app.app hok  hs43) ?_
     rintro _ w45 ⟨BL, a_BL, c_BL, rfl, hs_BL, hs46⟩
     replace hs46 := (show St _ _ (BL ++ (SB ++ (AB ++ (_ :: F)))) from hs46)
     refine w_nil ?_
     refine qn ⟨hs46.drop, ?_⟩
     refine d_eff rfl ?_
     refine w_call want_none Try.call44 rfl rfl rfl rfl (c44 m _ hm.cons.app.app.app hok _ _ ((setsL (othersTo [] m.shops.length))[i]'hi2) (by omega) hsx0.app hs46) ?_
     rintro _ w48 ⟨BO, a_BO, c_BO, rfl, hs_BO, hs49⟩
     replace hs49 := (show St _ _ (BO ++ (BL ++ (SB ++ (AB ++ (_ :: F))))) from hs49)
     refine w_nil ?_
     refine qn ⟨hs49.drop.drop, ?_⟩
     refine d_eff rfl ?_
     refine w_call want_none Try.call49 rfl rfl rfl rfl (c49 m _ hm.cons.app.app.app.app hok _ _ (leastL m) (List.length_map _) hs_BL.top.app (leastL_in hok) _ _ (othersTo ((setsL (othersTo [] m.shops.length))[i]'hi2) m.shops.length) (by omega) hs_BO.top (fun z hz => by have := hoi2 z hz; omega) hs49) ?_
     rintro _ w51 ⟨rfl, hs52⟩
     refine w_nil ?_
     refine qn ⟨hs52.drop.drop, ?_⟩
     refine d_nil ?_
     refine q_then (hK40 _ _ ?_)
     refine w_cond rfl rfl (fun h53 => ?_) (fun h53 => ?_)
     ·
      try simp only [Bool.not_eq_true', Bool.not_eq_false', decide_eq_true_eq, decide_eq_false_iff_not, Int.not_lt, Int.not_le] at h53
      refine w_seq (fun K55 hK54 => ?_)
      refine w_region ?_
      refine w_pure want_none (y_move (v := .slice _ _ _) rfl rfl) rfl ?_
      refine w_pure want_none (y_move (v := .int _ _) rfl rfl) rfl ?_
      refine w_pure want_none (y_indexS Try.underlying100 Try.sizeOf30 rfl rfl rfl rfl (i := _) rfl (by omega)) rfl ?_
      refine w_pure want_none (y_load1 Try.isAgg30 hs52.drop.drop rfl rfl hx0) rfl ?_
      refine w_pure want_none (y_assign (v := .slice _ _ _) rfl rfl) rfl ?_
      refine w_pure want_none (y_assign (v := _) rfl rfl) rfl ?_
      refine w_nil ?_
      refine q_then (hK54 _ _ ?_)
      refine w_ret ?_
      refine q_blk_ret ?_
      refine q_then_ret ?_
      refine q_then_ret ?_
      refine q_blk_ret ?_
      refine q_then_ret ?_
      refine q_ret (l := [.tmp 2, .tmp 3]) (vs := [_, _]) rfl ⟨⟨rfl, show _ = (.slice _ _ _ : Value) from rfl⟩, ⟨rfl, show _ = (.int _ _ : Value) from rfl⟩, trivial⟩ ?_
      first
        | (have hq : withoutR m = ([], (check m).2.2) := by unfold withoutR; rw [if_pos (by assumption)]
           exact ⟨[], none, 0, by rw [hq]; rfl, by rw [hq]; exact Sl.nil _ _, hs52.drop.drop.drop.drop.tail⟩)
        | (have hq : withoutR m = ((setsL (othersTo [] m.shops.length))[i]'hi2, 0) := by unfold withoutR; rw [if_neg (by simp [hck]), hfw, firstW_here hi2 (by assumption)]
           exact ⟨BO ++ (BL ++ (SB ++ (AB ++ [_]))), b2, c2, by rw [hq]; rfl, by rw [hq]; exact hsx1.top.app.app, by simp only [List.append_assoc]; exact hs52⟩)
        | (have hq : withoutR m = ([], 0) := by unfold withoutR; rw [if_neg (by simp [hck]), hfw, firstW_end (by omega)]
           exact ⟨[], none, 0, by rw [hq]; rfl, by rw [hq]; exact Sl.nil _ _, hs52.drop.drop.drop.drop.tail⟩)
     ·
      try simp only [Bool.not_eq_true', Bool.not_eq_false', decide_eq_true_eq, decide_eq_false_iff_not, Int.not_lt, Int.not_le] at h53
      refine w_skip ?_
      refine q_blk_normal ?_
      refine q_then (hK38 _ _ ?_)
      refine w_region ?_
      refine w_pure want_none (y_move (v := .int _ _) rfl rfl) rfl ?_
      refine w_pure want_none (y_add rfl rfl rfl rfl (by omega) (by omega)) rfl ?_
      refine w_pure want_none (y_assign (v := .int _ _) rfl rfl) rfl ?_
      refine w_nil ?_
      refine q_then (hN30 _ _ (Nx.intro ((setsL (othersTo [] m.shops.length)).length - (i + 1)) (by omega) (by repeat (first | exact agree_mix | refine agree_upd rfl ?_ | refine agree_updL rfl ?_ _ | refine agree_mixin rfl ?_)) ?_))
      exact ⟨i + 1, rfl, by omega, rfl, hfw.trans (firstW_on hi2 (by assumption)), hs52.drop.drop⟩
    ·
     try simp only [Bool.not_eq_true', Bool.not_eq_false', decide_eq_true_eq, decide_eq_false_iff_not, Int.not_lt, Int.not_le] at h37
     refine w_exit ?_
     refine q_then_exit ?_
     refine q_then_exit ?_
     refine q_blk_this ?_
     refine q_then (hK26 _ _ ?_)
     refine w_seq (fun K57 hK56 => ?_)
     refine w_region ?_
     refine w_pure want_none (y_assign (v := _) rfl rfl) rfl ?_
     refine w_pure want_none (y_assign (v := _) rfl rfl) rfl ?_
     refine w_nil ?_
     refine q_then (hK56 _ _ ?_)
     refine w_ret ?_
     refine q_ret (l := [.tmp 2, .tmp 3]) (vs := [_, _]) rfl ⟨⟨rfl, show _ = (.slice _ _ _ : Value) from rfl⟩, ⟨rfl, show _ = (.int _ _ : Value) from rfl⟩, trivial⟩ ?_
     first
       | (have hq : withoutR m = ([], (check m).2.2) := by unfold withoutR; rw [if_pos (by assumption)]
          exact ⟨[], none, 0, by rw [hq]; rfl, by rw [hq]; exact Sl.nil _ _, hs.drop.drop.tail⟩)
       | (have hq : withoutR m = ((setsL (othersTo [] m.shops.length))[i]'hi2, 0) := by unfold withoutR; rw [if_neg (by simp [hck]), hfw, firstW_here hi2 (by assumption)]
          exact ⟨BO ++ (BL ++ (SB ++ (AB ++ [_]))), b2, c2, by rw [hq]; rfl, by rw [hq]; exact hsx1.top.app.app, by simp only [List.append_assoc]; exact hs⟩)
       | (have hq : withoutR m = ([], 0) := by unfold withoutR; rw [if_neg (by simp [hck]), hfw, firstW_end (by omega)]
          exact ⟨[], none, 0, by rw [hq]; rfl, by rw [hq]; exact Sl.nil _ _, hs.drop.drop.tail⟩)

theorem keep_1st {w0 w : World} {F : List (Nat × Obj)} {a b c : Nat × Obj} (h : St w0 w (a :: b :: c :: F)) : St w0 w (a :: F) := (h.perm (perm_mid [a] [b, c] F)).drop
theorem rrows_one (l : List Room) : ∀ row ∈ rrows l, ∀ u ∈ row, u.oneCell' = true := by
  intro row hr u hu
  obtain ⟨f, _, rfl⟩ := List.mem_map.1 hr
  simp only [Room.cells, List.mem_cons, List.not_mem_nil, or_false] at hu
  rcases hu with rfl | rfl | rfl | rfl | rfl <;> rfl
theorem sl_own_rrows {w0 : World} {L : List (Nat × Obj)} {i b n : Nat} {t : TypeId} {cs : List Value} {l : List Room} (hi : L[i]? = some (b, blk t cs)) (hn : l.length = n) (h : cs.take (n * 5) = (rrows l).flatten) : Sl w0 L (some ⟨b, 0, none⟩) 5 (rrows l) :=
  sl_own hi (by intro row hr; obtain ⟨f, _, rfl⟩ := List.mem_map.1 hr; rfl) (by simpa [rrows, hn] using h)
theorem sl_some {w0 : World} {L : List (Nat × Obj)} {a : Option Addr} {sz c : Nat} {rows : List (List Value)} (h : Sl w0 L a sz rows) (hn : 0 < rows.length) : a = none → c = 0 := by
  intro e; obtain ⟨b, o, h1, _⟩ := h.addr hn; rw [e] at h1; cases h1
theorem c50 {w0 w : World} {F : List (Nat × Obj)} (m : Market) (p : At3) (hm : MIn w0 F m p) (r : Nat) (hr2 : r < m.rooms.length) (x : Int) (hx : 0 ≤ x ∧ x ≤ 60) (hxb : ∀ y ∈ m.rooms, 0 ≤ y.lo ∧ y.lo ≤ 200 ∧ 0 ≤ y.hi ∧ y.hi ≤ 200) (hl3 : m.rooms.length ≤ 3) (hs : St w0 w F) :
  Con Try.prog 50 [.agg (m.cells p).toArray, .int .i64 (r : Int), .int .i64 x] w fun v w' => ∃ B p', v = .agg ((withM m r x).cells p').toArray ∧ MIn w0 (B ++ F) (withM m r x) p' ∧ St w0 w' (B ++ F) := by
  refine con_of_wc (n := 36) Try.func50 rfl rfl (Nat.le_of_ble_eq_true rfl) ?_
  have hlr := hm.lr
  have hrb := hxb _ (List.getElem_mem hr2)
  refine w_seq (fun K2 hK1 => ?_)
  refine w_region ?_
  refine w_box (v := .agg #[.slice _ _ _, .slice _ _ _, .slice _ _ _]) (cs := [_, _, _]) want_none rfl rfl rfl hs (fun b3 w4 hs5 => ?_)
  refine w_alloc (cs := [_, _, _]) want_none Try.zeroValue26 rfl hs5 (fun b6 w7 hs8 => ?_)
  refine w_nil ?_
  refine q_then (hK1 _ _ ?_)
  refine w_seq (fun K10 hK9 => ?_)
  refine w_region ?_
  refine w_bslice (ps := []) (pv := []) (cs := []) want_none rfl rfl (fun w => Try_Y_fb5  w) hs8 (fun b11 w12 hs13 => ?_)
  refine w_pure want_none (y_fieldAddr (o := 0) (i := 0) Try.underlying26 rfl Try.sizeOf22 rfl rfl rfl) rfl ?_
  refine w_pure want_none (y_load1 Try.isAgg22 hs13 rfl rfl (ats_own (i := 2) (vs := [_]) rfl rfl)) rfl ?_
  refine w_append (X := ([])) (B := [_]) (rows := (rrows m.rooms)) (sz := 5) (bytes := 48) want_none Try.underlying22 Try_info69 rfl rfl rfl rfl rfl rfl rfl rfl rfl hs13 own_made hm.r.cons.cons.cons (by simp [rrows]) (sl_some hm.r (by simpa [rrows] using (by omega : 0 < m.rooms.length))) (rrows_one _) (by simp only [maxLen]; omega) (by omega) (fun v14 w15 B16 ho17 hs18 => ?_)
  replace hs18 := (show St _ _ (B16 ++ (_ :: _ :: F)) from hs18)
  rw [Nat.zero_add, List.nil_append] at ho17
  obtain ⟨bc, cap, cs0, rfl, hBC, hcap, hcapm, hcl0, hcs0⟩ := own_some ho17 (by omega)
  subst hBC
  replace hs18 := (show St _ _ (_ :: _ :: _ :: F) from hs18)
  refine w_pure want_none (y_fieldAddr (o := 0) (i := 0) Try.underlying26 rfl Try.sizeOf22 rfl rfl rfl) rfl ?_
  refine w_store (i := 2) (v := .slice _ _ _) (vs := [_]) want_none Try.sizeOf22 rfl rfl rfl rfl rfl (by simp [Value.oneCell']) hs18 rfl (Nat.le_of_ble_eq_true rfl) (fun w19 hs20 => ?_)
  refine w_nil ?_
  refine q_then (hK9 _ _ ?_)
  refine w_seq (fun K22 hK21 => ?_)
  obtain ⟨bx, ox, hbx2, hrow⟩ := sl_rrows (sl_own_rrows (w0 := w0) (L := (bc, blk 69 cs0) :: (b6, blk 26 [.slice none 0 0, .slice none 0 0, .slice none 0 0]) :: (b3, blk 26 [.slice (some ⟨bc, 0, none⟩) m.rooms.length cap, .slice p.az m.shops.length p.cs, .slice p.at_ m.trains.length p.ct]) :: F) (i := 0) rfl rfl hcs0) hr2
  cases hbx2
  refine w_region ?_
  refine w_pure want_none (y_fieldAddr (o := 0) (i := 0) Try.underlying26 rfl Try.sizeOf22 rfl rfl rfl) rfl ?_
  refine w_pure want_none (y_load1 Try.isAgg22 hs20 rfl rfl (ats_own (i := 2) (vs := [_]) rfl rfl)) rfl ?_
  refine w_pure want_none (y_move (v := .int _ _) rfl rfl) rfl ?_
  refine w_pure want_none (y_indexS Try.underlying22 Try.sizeOf69 rfl rfl rfl rfl (i := r) (by omega) (by omega)) rfl ?_
  refine w_pure want_none (y_loadN (vs := [_, _, _, _, _]) Try.isAgg69 Try.sizeOf69 hs20 rfl rfl hrow) rfl ?_
  refine w_alloc (cs := [_, _, _, _, _]) want_none Try.zeroValue69 rfl hs20 (fun b23 w24 hs25 => ?_)
  refine w_store (i := 0) (v := .agg #[.string _, .int _ _, .int _ _, .int _ _, .int _ _]) (vs := [_, _, _, _, _]) want_none Try.sizeOf69 rfl rfl rfl rfl rfl (by simp [Value.oneCell']) hs25 rfl (Nat.le_of_ble_eq_true rfl) (fun w26 hs27 => ?_)
  refine w_nil ?_
  refine q_then (hK21 _ _ ?_)
  refine w_seq (fun K29 hK28 => ?_)
  refine w_region ?_
  refine w_pure want_none (y_fieldAddr (o := 1) (i := 1) Try.underlying69 rfl Try.sizeOf67 rfl rfl rfl) rfl ?_
  refine w_pure want_none (y_fieldAddr (o := 0) (i := 0) Try.underlying67 rfl Try.sizeOf3 rfl rfl rfl) rfl ?_
  refine w_pure want_none (y_load1 Try.isAgg3 hs27 rfl rfl (ats_own (i := 0) (vs := [_]) rfl rfl)) rfl ?_
  refine w_pure want_none (y_move (v := .int _ _) rfl rfl) rfl ?_
  refine w_pure want_none (y_add rfl rfl rfl rfl (by omega) (by omega)) rfl ?_
  refine w_pure want_none (y_fieldAddr (o := 1) (i := 1) Try.underlying69 rfl Try.sizeOf67 rfl rfl rfl) rfl ?_
  refine w_pure want_none (y_fieldAddr (o := 1) (i := 1) Try.underlying67 rfl Try.sizeOf3 rfl rfl rfl) rfl ?_
  refine w_pure want_none (y_load1 Try.isAgg3 hs27 rfl rfl (ats_own (i := 0) (vs := [_]) rfl rfl)) rfl ?_
  refine w_pure want_none (y_move (v := .int _ _) rfl rfl) rfl ?_
  refine w_pure want_none (y_add rfl rfl rfl rfl (by omega) (by omega)) rfl ?_
  refine w_pure want_none (y_build (ps := [(0, _), (1, _)]) (pv := [(0, .int _ _), (1, .int _ _)]) rfl rfl (fun w => Try_Y_fb7 _ _ w)) rfl ?_
  refine w_pure want_none (y_fieldAddr (o := 1) (i := 1) Try.underlying69 rfl Try.sizeOf67 rfl rfl rfl) rfl ?_
  refine w_store (i := 0) (v := .agg #[.int _ _, .int _ _]) (vs := [_, _]) want_none Try.sizeOf67 rfl rfl rfl rfl rfl (by simp [Value.oneCell']) hs27 rfl (Nat.le_of_ble_eq_true rfl) (fun w30 hs31 => ?_)
  refine w_nil ?_
  refine q_then (hK28 _ _ ?_)
  refine w_seq (fun K33 hK32 => ?_)
  refine w_region ?_
  refine w_pure want_none (y_fieldAddr (o := 0) (i := 0) Try.underlying26 rfl Try.sizeOf22 rfl rfl rfl) rfl ?_
  refine w_pure want_none (y_load1 Try.isAgg22 hs31 rfl rfl (ats_own (i := 3) (vs := [_]) rfl rfl)) rfl ?_
  refine w_pure want_none (y_move (v := .int _ _) rfl rfl) rfl ?_
  refine w_pure want_none (y_loadN (vs := [_, _, _, _, _]) Try.isAgg69 Try.sizeOf69 hs31 rfl rfl (ats_own (i := 0) (vs := [_, _, _, _, _]) rfl rfl)) rfl ?_
  refine w_pure want_none (y_indexS Try.underlying22 Try.sizeOf69 rfl rfl rfl rfl (i := r) (by omega) (by omega)) rfl ?_
  refine w_store (i := 1) (v := .agg #[_, _, _, _, _]) (vs := [_, _, _, _, _]) want_none Try.sizeOf69 rfl rfl rfl rfl rfl (by simp [Value.oneCell']) hs31 rfl (show 0 + r * 5 + 5 ≤ cs0.length by omega) (fun w34 hs35 => ?_)
  have hcs2 : (setMany cs0 (r * 5) (addH (m.rooms[r]'hr2) x).cells).take (m.rooms.length * 5) = (rrows (addRoom m.rooms r x)).flatten := cells_room rfl hcs0 hr2
  replace hs35 := (show St _ _ (_ :: (bc, blk 69 (setMany cs0 (r * 5) (addH (m.rooms[r]'hr2) x).cells)) :: _ :: _ :: F) from (by have h6 := hs35; simp only [Nat.zero_add] at h6; exact h6))
  refine w_nil ?_
  refine q_then (hK32 _ _ ?_)
  refine w_seq (fun K37 hK36 => ?_)
  refine w_region ?_
  refine w_pure want_none (y_loadN (vs := [_, _, _]) Try.isAgg26 Try.sizeOf26 hs35 rfl rfl (ats_own (i := 3) (vs := [_, _, _]) rfl rfl)) rfl ?_
  refine w_store (i := 2) (v := .agg #[.slice _ _ _, .slice _ _ _, .slice _ _ _]) (vs := [_, _, _]) want_none Try.sizeOf26 rfl rfl rfl rfl rfl (by simp [Value.oneCell']) hs35 rfl (Nat.le_of_ble_eq_true rfl) (fun w38 hs39 => ?_)
  refine w_nil ?_
  refine q_then (hK36 _ _ ?_)
  refine w_ret ?_
  refine q_ret (l := [.cell 6 26]) (vs := [_]) rfl ⟨⟨rfl, _, rfl, run_loadVarN (vs := [_, _, _]) Try.isAgg26 Try.sizeOf26 hs39 (ats_own (i := 2) (vs := [_, _, _]) rfl rfl)⟩, trivial⟩ ?_
  exact ⟨[(bc, _)], { p with ar := some ⟨bc, 0, none⟩, cr := cap }, by rw [withM_cells]; rfl, ⟨sl_own_rrows (i := 0) rfl (addRoom_len _ _ _) hcs2, hm.s.cons, hm.t.cons, (by show (addRoom _ _ _).length ≤ _; rw [addRoom_len]; exact hm.lr), hm.ls, hm.lt, (by show (addRoom _ _ _).length ≤ cap; rw [addRoom_len]; exact hcap), hm.cs, hm.ct, (fun y hy => by rcases mem_addRoom hy with h | ⟨t, h1, h2⟩; exact hm.nr y h; rw [h2]; exact hm.nr t h1), hm.ns⟩, keep_1st hs39.tail⟩

theorem c52 {w0 w : World} {F : List (Nat × Obj)} (m : Market) (p : At3) (hm : MIn w0 F m p) (r : Nat) (hr2 : r < m.trains.length) (hxb : ∀ y ∈ m.trains, 0 ≤ y.days ∧ y.days ≤ 200) (hl6 : m.trains.length ≤ 6) (hs : St w0 w F) :
  Con Try.prog 52 [.agg (m.cells p).toArray, .int .i64 (r : Int)] w fun v w' => ∃ B p', v = .agg ((lateM m r).cells p').toArray ∧ MIn w0 (B ++ F) (lateM m r) p' ∧ St w0 w' (B ++ F) := by
  refine con_of_wc (n := 26) Try.func52 rfl rfl (Nat.le_of_ble_eq_true rfl) ?_
  have hlr := hm.lt
  have hrb := hxb _ (List.getElem_mem hr2)
  refine w_seq (fun K2 hK1 => ?_)
  refine w_region ?_
  refine w_box (v := .agg #[.slice _ _ _, .slice _ _ _, .slice _ _ _]) (cs := [_, _, _]) want_none rfl rfl rfl hs (fun b3 w4 hs5 => ?_)
  refine w_alloc (cs := [_, _, _]) want_none Try.zeroValue26 rfl hs5 (fun b6 w7 hs8 => ?_)
  refine w_nil ?_
  refine q_then (hK1 _ _ ?_)
  refine w_seq (fun K10 hK9 => ?_)
  refine w_region ?_
  refine w_bslice (ps := []) (pv := []) (cs := []) want_none rfl rfl (fun w => Try_Y_fb8  w) hs8 (fun b11 w12 hs13 => ?_)
  refine w_pure want_none (y_fieldAddr (o := 2) (i := 2) Try.underlying26 rfl Try.sizeOf24 rfl rfl rfl) rfl ?_
  refine w_pure want_none (y_load1 Try.isAgg24 hs13 rfl rfl (ats_own (i := 2) (vs := [_]) rfl rfl)) rfl ?_
  refine w_append (X := ([])) (B := [_]) (rows := (trows m.trains)) (sz := 4) (bytes := 32) want_none Try.underlying24 Try_info63 rfl rfl rfl rfl rfl rfl rfl rfl rfl hs13 own_made hm.t.cons.cons.cons (by simp [trows]) (sl_some hm.t (by simpa [trows] using (by omega : 0 < m.trains.length))) (trows_one _) (by simp only [maxLen]; omega) (by omega) (fun v14 w15 B16 ho17 hs18 => ?_)
  replace hs18 := (show St _ _ (B16 ++ (_ :: _ :: F)) from hs18)
  rw [Nat.zero_add, List.nil_append] at ho17
  obtain ⟨bc, cap, cs0, rfl, hBC, hcap, hcapm, hcl0, hcs0⟩ := own_some ho17 (by omega)
  subst hBC
  replace hs18 := (show St _ _ (_ :: _ :: _ :: F) from hs18)
  refine w_pure want_none (y_fieldAddr (o := 2) (i := 2) Try.underlying26 rfl Try.sizeOf24 rfl rfl rfl) rfl ?_
  refine w_store (i := 2) (v := .slice _ _ _) (vs := [_]) want_none Try.sizeOf24 rfl rfl rfl rfl rfl (by simp [Value.oneCell']) hs18 rfl (Nat.le_of_ble_eq_true rfl) (fun w19 hs20 => ?_)
  refine w_nil ?_
  refine q_then (hK9 _ _ ?_)
  refine w_seq (fun K22 hK21 => ?_)
  obtain ⟨bx, ox, hbx2, hrow⟩ := sl_trows (sl_own_trows (w0 := w0) (L := (bc, blk 63 cs0) :: (b6, blk 26 [.slice none 0 0, .slice none 0 0, .slice none 0 0]) :: (b3, blk 26 [.slice p.ar m.rooms.length p.cr, .slice p.az m.shops.length p.cs, .slice (some ⟨bc, 0, none⟩) m.trains.length cap]) :: F) (i := 0) rfl rfl hcs0) hr2
  cases hbx2
  refine w_region ?_
  refine w_pure want_none (y_fieldAddr (o := 2) (i := 2) Try.underlying26 rfl Try.sizeOf24 rfl rfl rfl) rfl ?_
  refine w_pure want_none (y_load1 Try.isAgg24 hs20 rfl rfl (ats_own (i := 2) (vs := [_]) rfl rfl)) rfl ?_
  refine w_pure want_none (y_move (v := .int _ _) rfl rfl) rfl ?_
  refine w_pure want_none (y_indexS Try.underlying24 Try.sizeOf63 rfl rfl rfl rfl (i := r) (by omega) (by omega)) rfl ?_
  refine w_pure want_none (y_loadN (vs := [_, _, _, _]) Try.isAgg63 Try.sizeOf63 hs20 rfl rfl hrow) rfl ?_
  refine w_alloc (cs := [_, _, _, _]) want_none Try.zeroValue63 rfl hs20 (fun b23 w24 hs25 => ?_)
  refine w_store (i := 0) (v := .agg #[.int _ _, .int _ _, .int _ _, .int _ _]) (vs := [_, _, _, _]) want_none Try.sizeOf63 rfl rfl rfl rfl rfl (by simp [Value.oneCell']) hs25 rfl (Nat.le_of_ble_eq_true rfl) (fun w26 hs27 => ?_)
  refine w_nil ?_
  refine q_then (hK21 _ _ ?_)
  refine w_seq (fun K29 hK28 => ?_)
  refine w_region ?_
  refine w_pure want_none (y_fieldAddr (o := 2) (i := 2) Try.underlying63 rfl Try.sizeOf3 rfl rfl rfl) rfl ?_
  refine w_pure want_none (y_load1 Try.isAgg3 hs27 rfl rfl (ats_own (i := 0) (vs := [_]) rfl rfl)) rfl ?_
  refine w_pure want_none (y_add rfl rfl rfl rfl (by omega) (by omega)) rfl ?_
  refine w_pure want_none (y_fieldAddr (o := 2) (i := 2) Try.underlying63 rfl Try.sizeOf3 rfl rfl rfl) rfl ?_
  refine w_store (i := 0) (v := .int _ _) (vs := [_]) want_none Try.sizeOf3 rfl rfl rfl rfl rfl (by simp [Value.oneCell']) hs27 rfl (Nat.le_of_ble_eq_true rfl) (fun w30 hs31 => ?_)
  refine w_nil ?_
  refine q_then (hK28 _ _ ?_)
  refine w_seq (fun K33 hK32 => ?_)
  refine w_region ?_
  refine w_pure want_none (y_fieldAddr (o := 2) (i := 2) Try.underlying26 rfl Try.sizeOf24 rfl rfl rfl) rfl ?_
  refine w_pure want_none (y_load1 Try.isAgg24 hs31 rfl rfl (ats_own (i := 3) (vs := [_]) rfl rfl)) rfl ?_
  refine w_pure want_none (y_move (v := .int _ _) rfl rfl) rfl ?_
  refine w_pure want_none (y_loadN (vs := [_, _, _, _]) Try.isAgg63 Try.sizeOf63 hs31 rfl rfl (ats_own (i := 0) (vs := [_, _, _, _]) rfl rfl)) rfl ?_
  refine w_pure want_none (y_indexS Try.underlying24 Try.sizeOf63 rfl rfl rfl rfl (i := r) (by omega) (by omega)) rfl ?_
  refine w_store (i := 1) (v := .agg #[_, _, _, _]) (vs := [_, _, _, _]) want_none Try.sizeOf63 rfl rfl rfl rfl rfl (by simp [Value.oneCell']) hs31 rfl (show 0 + r * 4 + 4 ≤ cs0.length by omega) (fun w34 hs35 => ?_)
  have hcs2 : (setMany cs0 (r * 4) (late (m.trains[r]'hr2)).cells).take (m.trains.length * 4) = (trows (setLate m.trains r)).flatten := cells_slow rfl hcs0 hr2
  replace hs35 := (show St _ _ (_ :: (bc, blk 63 (setMany cs0 (r * 4) (late (m.trains[r]'hr2)).cells)) :: _ :: _ :: F) from (by have h6 := hs35; simp only [Nat.zero_add] at h6; exact h6))
  refine w_nil ?_
  refine q_then (hK32 _ _ ?_)
  refine w_seq (fun K37 hK36 => ?_)
  refine w_region ?_
  refine w_pure want_none (y_loadN (vs := [_, _, _]) Try.isAgg26 Try.sizeOf26 hs35 rfl rfl (ats_own (i := 3) (vs := [_, _, _]) rfl rfl)) rfl ?_
  refine w_store (i := 2) (v := .agg #[.slice _ _ _, .slice _ _ _, .slice _ _ _]) (vs := [_, _, _]) want_none Try.sizeOf26 rfl rfl rfl rfl rfl (by simp [Value.oneCell']) hs35 rfl (Nat.le_of_ble_eq_true rfl) (fun w38 hs39 => ?_)
  refine w_nil ?_
  refine q_then (hK36 _ _ ?_)
  refine w_ret ?_
  refine q_ret (l := [.cell 4 26]) (vs := [_]) rfl ⟨⟨rfl, _, rfl, run_loadVarN (vs := [_, _, _]) Try.isAgg26 Try.sizeOf26 hs39 (ats_own (i := 2) (vs := [_, _, _]) rfl rfl)⟩, trivial⟩ ?_
  exact ⟨[(bc, _)], { p with at_ := some ⟨bc, 0, none⟩, ct := cap }, by rw [lateM_cells]; rfl, ⟨hm.r.cons, hm.s.cons, sl_own_trows (i := 0) rfl (setLate_len _ _) hcs2, hm.lr, hm.ls, (by show (setLate _ _).length ≤ _; rw [setLate_len]; exact hm.lt), hm.cr, hm.cs, (by show (setLate _ _).length ≤ cap; rw [setLate_len]; exact hcap), hm.nr, hm.ns⟩, keep_1st hs39.tail⟩

end Go.Proofs
