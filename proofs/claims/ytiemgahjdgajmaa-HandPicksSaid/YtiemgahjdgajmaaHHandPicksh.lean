/- Own texts of this claim, joined. No conditions. -/
import Derived.Test.YtiemgahjdgajmaaHHandPicksa
import Derived.Test.YtiemgahjdgajmaaHHandPicksb
import Derived.Test.YtiemgahjdgajmaaHHandPicksc
import Derived.Test.YtiemgahjdgajmaaHHandPicksd
import Derived.Test.YtiemgahjdgajmaaHHandPickse
import Derived.Test.YtiemgahjdgajmaaHHandPicksf
import Derived.Test.YtiemgahjdgajmaaHHandPicksg
/- Walks of this seat, printed by gen.py over the engine: what each function returns, in whatever world. No conditions but those of each contract. -/
set_option linter.unusedVariables false
set_option linter.unusedSimpArgs false
set_option maxRecDepth 20000
namespace Go.Proofs
open Go.Rt Go.Rt.Ha
attribute [local irreducible] WL WC Con Yd At Ats Sl Agree DW
theorem Try_Ye_fb6 (x0 : Int) (w : World) : (Instr.buildSlice 37 1 [(0, .int .i64 x0)].toArray).run Try.prog w = .ok (.slice (some ⟨w.heap.size, 0, none⟩) 1 1) (w.alloc (Go.Rt.blk 3 [.int .i64 x0])) := by kernel_rfl
theorem c31 {w0 w : World} {F : List (Nat × Obj)} (l : Lot) (p : At3) (hm : LIn w0 F l p) (g m : Int) (hs : St w0 w F) :
  Con Try.prog 31 [.agg (l.cells p).toArray, .int .i64 g, .int .i64 m] w fun v w' => ∃ B a c, v = .tuple #[.slice a (pickP l g m).1.length c, .int .i64 (pickP l g m).2] ∧ Sl w0 B a 1 ((pickP l g m).1.map fun x => [Value.int .i64 x]) ∧ St w0 w' (B ++ F) := by
  refine con_of_wc (n := 82) Try.func31 rfl rfl (Nat.le_of_ble_eq_true rfl) ?_
  have hlg0 := hm.lg
  refine w_seq (fun K2 hK1 => ?_)
  refine w_region ?_
  refine w_box (v := .agg #[.slice _ _ _, .slice _ _ _, .slice _ _ _]) (cs := [_, _, _]) want_none rfl rfl rfl hs (fun b3 w4 hs5 => ?_)
  refine w_pure want_none (y_assign (v := _) rfl rfl) rfl ?_
  refine w_pure want_none (y_assign (v := _) rfl rfl) rfl ?_
  refine w_nil ?_
  refine q_then (hK1 _ _ ?_)
  refine w_seq (fun K7 hK6 => ?_)
  have hbx := ats_ofR (i := 0) (vs := l.cells p) hs5 rfl rfl
  refine w_region ?_
  refine w_pure want_none (y_loadN (vs := [_, _, _]) Try.isAgg26 Try.sizeOf26 hs5 rfl rfl hbx) rfl ?_
  refine w_pure want_none (y_move (v := .int _ _) rfl rfl) rfl ?_
  refine w_pure want_none (y_fieldAddr (o := 0) (i := 0) Try.underlying26 rfl Try.sizeOf22 rfl rfl rfl) rfl ?_
  refine w_pure want_none (y_load1 Try.isAgg22 hs5 rfl rfl (show Ats _ _ _ _ [_] from Ats.part hbx 0 1)) rfl ?_
  refine w_pure want_none (y_lenS Try.underlying22 rfl rfl) rfl ?_
  refine w_call want_none Try.call73 rfl rfl rfl rfl (c73 l p hm.cons g l.grades.length (by omega) hs5) ?_
  rintro _ w9 ⟨rfl, hs10⟩
  refine w_pure want_none (y_assign (v := .int _ _) rfl rfl) rfl ?_
  refine w_nil ?_
  refine q_then (hK6 _ _ ?_)
  refine w_seq (fun K12 hK11 => ?_)
  refine w_cut [8, 22, 23, 24, 25, 26, 27, 28] [8] (fun vs0 w => vs0 = [.int .i64 (pickC l g m)] ∧ St w0 w ((b3, blk 26 (l.cells p)) :: F)) (fun K14 hC13 => ?_) ?_
  ·
   refine w_seq (fun K16 hK15 => ?_)
   refine w_region ?_
   refine w_pure want_none (y_move (v := .int _ _) rfl rfl) rfl ?_
   refine w_pure want_none (y_eql rfl rfl rfl rfl) rfl ?_
   refine w_pure want_none (y_move (v := .bool _) rfl rfl) rfl ?_
   refine w_split (fun h17 => ?_) (fun h17 => ?_)
   ·
    try simp only [Bool.not_eq_true', Bool.not_eq_false', decide_eq_true_eq, decide_eq_false_iff_not, Int.not_lt, Int.not_le] at h17
    refine w_pure (want_yes rfl rfl rfl) (y_move (v := .int _ _) rfl rfl) rfl ?_
    refine w_call (want_yes rfl rfl rfl) Try.call51 rfl rfl rfl rfl (c51 _ _ _ hs10) ?_
    rintro _ w19 ⟨rfl, hs20⟩
    refine w_pure (want_yes rfl rfl rfl) (y_not rfl rfl) rfl ?_
    refine w_pure want_none (y_pickT (v := .bool _) rfl rfl rfl rfl) rfl ?_
    refine w_nil ?_
    refine q_then (hK15 _ _ ?_)
    refine w_cond rfl rfl (fun h21 => ?_) (fun h21 => ?_)
    ·
     try simp only [Bool.not_eq_true', Bool.not_eq_false', decide_eq_true_eq, decide_eq_false_iff_not, Int.not_lt, Int.not_le] at h21
     refine w_region ?_
     refine w_pure want_none (y_assign (v := _) rfl rfl) rfl ?_
     refine w_nil ?_
     refine q_then (hC13 _ _ (Md.intro (by repeat (first | exact agree_refl | exact agree_mix | refine agree_upd rfl ?_ | refine agree_updL rfl ?_ _ | refine agree_mixin rfl ?_)) ?_))
     first
       | exact ⟨by rw [← pickC_7 (by assumption) (by assumption)]; rfl, hs20⟩
       | exact ⟨by rw [← pickC_0 (by assumption) (by assumption)]; rfl, hs20⟩
       | exact ⟨by rw [← pickC_e (by assumption)]; rfl, hs20⟩
    ·
     try simp only [Bool.not_eq_true', Bool.not_eq_false', decide_eq_true_eq, decide_eq_false_iff_not, Int.not_lt, Int.not_le] at h21
     refine w_skip ?_
     refine q_then (hC13 _ _ (Md.intro (by repeat (first | exact agree_refl | exact agree_mix | refine agree_upd rfl ?_ | refine agree_updL rfl ?_ _ | refine agree_mixin rfl ?_)) ?_))
     first
       | exact ⟨by rw [← pickC_7 (by assumption) (by assumption)]; rfl, hs20⟩
       | exact ⟨by rw [← pickC_0 (by assumption) (by assumption)]; rfl, hs20⟩
       | exact ⟨by rw [← pickC_e (by assumption)]; rfl, hs20⟩
   ·
    try simp only [Bool.not_eq_true', Bool.not_eq_false', decide_eq_true_eq, decide_eq_false_iff_not, Int.not_lt, Int.not_le] at h17
    refine w_skipop rfl rfl rfl ?_
    refine w_skipop rfl rfl rfl ?_
    refine w_skipop rfl rfl rfl ?_
    refine w_pure want_none (y_pickF (v := _) rfl rfl rfl rfl) rfl ?_
    refine w_nil ?_
    refine q_then (hK15 _ _ ?_)
    refine w_condF rfl rfl ?_
    refine w_skip ?_
    refine q_then (hC13 _ _ (Md.intro (by repeat (first | exact agree_refl | exact agree_mix | refine agree_upd rfl ?_ | refine agree_updL rfl ?_ _ | refine agree_mixin rfl ?_)) ?_))
    first
      | exact ⟨by rw [← pickC_7 (by assumption) (by assumption)]; rfl, hs10⟩
      | exact ⟨by rw [← pickC_0 (by assumption) (by assumption)]; rfl, hs10⟩
      | exact ⟨by rw [← pickC_e (by assumption)]; rfl, hs10⟩
  ·
   intro vs μ w22 hM
   obtain ⟨rfl, hs⟩ := hM
   refine q_then (hK11 _ _ ?_)
   refine w_seq (fun K24 hK23 => ?_)
   refine w_region ?_
   refine w_pure want_none (y_loadN (vs := [_, _, _]) Try.isAgg26 Try.sizeOf26 hs rfl rfl hbx) rfl ?_
   refine w_pure want_none (y_move (v := .int _ _) rfl rfl) rfl ?_
   refine w_call want_none Try.call72 rfl rfl rfl rfl (c72 l p hm.cons (pickC l g m) (fun h => check_ok (pickC_zero h).1) hs) ?_
   rintro _ w26 (⟨hee, rfl, hs27⟩ | ⟨hee, B, vs, a, c, rfl, hslB, helB, hs27⟩)
   ·
    refine w_pure want_none (y_move (v := .tuple _) rfl rfl) rfl ?_
    refine w_pure want_none (y_extract (v := .slice _ _ _) rfl rfl rfl) rfl ?_
    refine w_pure want_none (y_extract (v := .int _ _) rfl rfl rfl) rfl ?_
    refine w_pure want_none (y_assign (v := .slice _ _ _) rfl rfl) rfl ?_
    refine w_pure want_none (y_assign (v := .int _ _) rfl rfl) rfl ?_
    refine w_nil ?_
    refine q_then (hK23 _ _ ?_)
    refine w_seq (fun K29 hK28 => ?_)
    refine w_seq (fun K31 hK30 => ?_)
    refine w_region ?_
    refine w_pure want_none (y_move (v := .int _ _) rfl rfl) rfl ?_
    refine w_pure want_none (y_neq rfl rfl rfl rfl) rfl ?_
    refine w_nil ?_
    refine q_then (hK30 _ _ ?_)
    refine w_cond rfl rfl (fun h32 => ?_) (fun h32 => ?_)
    ·
     try simp only [Bool.not_eq_true', Bool.not_eq_false', decide_eq_true_eq, decide_eq_false_iff_not, Int.not_lt, Int.not_le] at h32
     refine w_seq (fun K34 hK33 => ?_)
     refine w_region ?_
     refine w_pure want_none (y_move (v := .int _ _) rfl rfl) rfl ?_
     refine w_pure want_none (y_assign (v := _) rfl rfl) rfl ?_
     refine w_pure want_none (y_assign (v := .int _ _) rfl rfl) rfl ?_
     refine w_nil ?_
     refine q_then (hK33 _ _ ?_)
     refine w_ret ?_
     refine q_then_ret ?_
     refine q_ret (l := [.tmp 6, .tmp 7]) (vs := [_, _]) rfl ⟨⟨rfl, show _ = (.slice _ _ _ : Value) from rfl⟩, ⟨rfl, show _ = (.int _ _ : Value) from rfl⟩, trivial⟩ ?_
     have hq : pickP l g m = ([], kE l (pickC l g m)) := by rw [pickC_enter]; unfold pickP; rw [if_pos (by rw [← pickC_enter]; exact hee)]
     exact ⟨[], none, 0, by rw [hq]; rfl, by rw [hq]; exact Sl.nil _ _, hs27.tail⟩
    ·
     exfalso
     try simp only [Bool.not_eq_true', Bool.not_eq_false', decide_eq_true_eq, decide_eq_false_iff_not, Int.not_lt, Int.not_le] at h32
     first | exact hee h32 | exact h32 hee
   ·
    replace hs27 := (show St _ _ (B ++ (_ :: F)) from hs27)
    have hke := kE_zero hee
    have hok := check_ok (pickC_zero hke.1).1
    have hlg := hok.lg
    have hlb := hok.lb
    have hlc := hok.lc
    have hwl := ways_len hok 0
    have hwp : 0 < (Ha.ways l 0).length := by cases hw : Ha.ways l 0 with | nil => exact absurd hw hke.2 | cons _ _ => simp
    refine w_pure want_none (y_move (v := .tuple _) rfl rfl) rfl ?_
    refine w_pure want_none (y_extract (v := .slice _ _ _) rfl rfl rfl) rfl ?_
    refine w_pure want_none (y_extract (v := .int _ _) rfl rfl rfl) rfl ?_
    refine w_pure want_none (y_assign (v := .slice _ _ _) rfl rfl) rfl ?_
    refine w_pure want_none (y_assign (v := .int _ _) rfl rfl) rfl ?_
    refine w_nil ?_
    refine q_then (hK23 _ _ ?_)
    refine w_seq (fun K36 hK35 => ?_)
    refine w_seq (fun K38 hK37 => ?_)
    refine w_region ?_
    refine w_pure want_none (y_move (v := .int _ _) rfl rfl) rfl ?_
    refine w_pure want_none (y_neq rfl rfl rfl rfl) rfl ?_
    refine w_nil ?_
    refine q_then (hK37 _ _ ?_)
    refine w_condF rfl rfl ?_
    refine w_skip ?_
    refine q_then (hK35 _ _ ?_)
    refine w_seq (fun K40 hK39 => ?_)
    have hpe := pickE_zero (pickC_zero hke.1).2
    refine w_region ?_
    refine w_pure want_none (y_loadN (vs := [_, _, _]) Try.isAgg26 Try.sizeOf26 hs27.drop rfl rfl hbx) rfl ?_
    refine w_pure want_none (y_move (v := .slice _ _ _) rfl rfl) rfl ?_
    refine w_pure want_none (y_move (v := .int _ _) rfl rfl) rfl ?_
    refine w_call want_none Try.call46 rfl rfl rfl rfl ((by have h := c46 l p hm.cons.app hok a c (Ha.ways l 0) vs hslB.top helB.top hwl (fun h hh => way_len hh) g.toNat (by omega) hs27; rw [show ((g.toNat : Nat) : Int) = g by omega] at h; exact h)) ?_
    rintro _ w42 ⟨FB, hownF, hs43⟩
    replace hs43 := (show St _ _ (FB ++ (B ++ (_ :: F))) from hs43)
    have hfi := fitR_in l (Ha.ways l 0) g.toNat l.bunches.length
    obtain ⟨aF, cF, rfl, hslF, _, _⟩ := own_ints (w0 := w0) hownF
    refine w_pure want_none (y_assign (v := .slice _ _ _) rfl rfl) rfl ?_
    refine w_nil ?_
    refine q_then (hK39 _ _ ?_)
    refine w_seq (fun K45 hK44 => ?_)
    refine w_seq (fun K47 hK46 => ?_)
    refine w_region ?_
    refine w_pure want_none (y_assign (v := _) rfl rfl) rfl ?_
    refine w_nil ?_
    refine q_then (hK46 _ _ ?_)
    refine w_block ?_
    refine w_loop [6, 7, 11, 12, 13, 14, 15, 42, 43, 44, 45, 46, 47, 48, 49, 50, 51, 52, 53, 54, 55, 56, 57, 58, 59, 60, 61, 62, 63, 64, 65, 66, 67, 68, 69, 70, 71, 72, 73, 74, 75, 76, 77, 78, 79, 80, 81] [11] (fun kk vs0 w => ∃ (k : Nat), vs0 = [.int .i64 k] ∧ k ≤ (fitR l (Ha.ways l 0) g.toNat l.bunches.length).length + 1 ∧ kk = (fitR l (Ha.ways l 0) g.toNat l.bunches.length).length + 1 - k ∧ (setsTo (fitR l (Ha.ways l 0) g.toNat l.bunches.length) k).find? (fun own => decide (m ≤ leastR (Ha.ways l 0) own)) = none ∧ St w0 w (FB ++ (B ++ ((b3, blk 26 (l.cells p)) :: F)))) ((fitR l (Ha.ways l 0) g.toNat l.bunches.length).length + 1) ?_ ?_
    ·
     exact ⟨0, rfl, by omega, by omega, rfl, hs43⟩
    ·
     intro k vs μ w50 hI K49 hN48
     obtain ⟨k, rfl, hka, rfl, hf1, hs⟩ := hI
     refine w_seq (fun K52 hK51 => ?_)
     refine w_seq (fun K54 hK53 => ?_)
     refine w_region ?_
     refine w_pure want_none (y_move (v := .int _ _) rfl rfl) rfl ?_
     refine w_pure want_none (y_move (v := .slice _ _ _) rfl rfl) rfl ?_
     refine w_pure want_none (y_lenS Try.underlying37 rfl rfl) rfl ?_
     refine w_pure want_none (y_leq rfl rfl rfl rfl) rfl ?_
     refine w_nil ?_
     refine q_then (hK53 _ _ ?_)
     refine w_cond rfl rfl (fun h55 => ?_) (fun h55 => ?_)
     ·
      try simp only [Bool.not_eq_true', Bool.not_eq_false', decide_eq_true_eq, decide_eq_false_iff_not, Int.not_lt, Int.not_le] at h55
      refine w_skip ?_
      refine q_then (hK51 _ _ ?_)
      refine w_seq (fun K57 hK56 => ?_)
      refine w_block ?_
      refine w_seq (fun K59 hK58 => ?_)
      have hk2 : k ≤ (fitR l (Ha.ways l 0) g.toNat l.bunches.length).length := by omega
      have hcm := choices_max (below := (fitR l (Ha.ways l 0) g.toNat l.bunches.length).length) (i := k) (by omega) (by omega)
      have hcl := choices_len (below := (fitR l (Ha.ways l 0) g.toNat l.bunches.length).length) k
      refine w_region ?_
      refine w_pure want_none (y_move (v := .slice _ _ _) rfl rfl) rfl ?_
      refine w_pure want_none (y_lenS Try.underlying37 rfl rfl) rfl ?_
      refine w_pure want_none (y_move (v := .int _ _) rfl rfl) rfl ?_
      refine w_call want_none Try.call87 rfl rfl rfl rfl (c87 (fitR l (Ha.ways l 0) g.toNat l.bunches.length).length k (by omega) (by omega) hs) ?_
      rintro _ w61 ⟨CB, vc, ac, cc, rfl, hslC, helC, hs62⟩
      replace hs62 := (show St _ _ (CB ++ (FB ++ (B ++ (_ :: F)))) from hs62)
      refine w_pure want_none (y_assign (v := .slice _ _ _) rfl rfl) rfl ?_
      refine w_nil ?_
      refine q_then (hK58 _ _ ?_)
      refine w_seq (fun K64 hK63 => ?_)
      refine w_region ?_
      refine w_pure want_none (y_assign (v := _) rfl rfl) rfl ?_
      refine w_nil ?_
      refine q_then (hK63 _ _ ?_)
      refine w_block ?_
      refine w_loop [6, 7, 13, 14, 15, 52, 53, 54, 55, 56, 57, 58, 59, 60, 61, 62, 63, 64, 65, 66, 67, 68, 69, 70, 71, 72, 73, 74, 75, 76, 77, 78, 79, 80, 81] [13] (fun kk vs0 w => ∃ (q : Nat), vs0 = [.int .i64 q] ∧ q ≤ (choices (fitR l (Ha.ways l 0) g.toNat l.bunches.length).length k).length ∧ kk = (choices (fitR l (Ha.ways l 0) g.toNat l.bunches.length).length k).length - q ∧ (((choices (fitR l (Ha.ways l 0) g.toNat l.bunches.length).length k).take q).map (pickL (fitR l (Ha.ways l 0) g.toNat l.bunches.length))).find? (fun own => decide (m ≤ leastR (Ha.ways l 0) own)) = none ∧ St w0 w (CB ++ (FB ++ (B ++ ((b3, blk 26 (l.cells p)) :: F))))) ((choices (fitR l (Ha.ways l 0) g.toNat l.bunches.length).length k).length) ?_ ?_
      ·
       exact ⟨0, rfl, by omega, by omega, rfl, hs62⟩
      ·
       intro k vs μ w67 hI K66 hN65
       obtain ⟨q, rfl, hqa, rfl, hf2, hs⟩ := hI
       refine w_seq (fun K69 hK68 => ?_)
       refine w_seq (fun K71 hK70 => ?_)
       refine w_region ?_
       refine w_pure want_none (y_move (v := .int _ _) rfl rfl) rfl ?_
       refine w_pure want_none (y_move (v := .slice _ _ _) rfl rfl) rfl ?_
       refine w_pure want_none (y_lenS Try.underlying64 rfl rfl) rfl ?_
       refine w_pure want_none (y_lss rfl rfl rfl rfl) rfl ?_
       refine w_nil ?_
       refine q_then (hK70 _ _ ?_)
       refine w_cond rfl rfl (fun h72 => ?_) (fun h72 => ?_)
       ·
        try simp only [Bool.not_eq_true', Bool.not_eq_false', decide_eq_true_eq, decide_eq_false_iff_not, Int.not_lt, Int.not_le] at h72
        refine w_skip ?_
        refine q_then (hK68 _ _ ?_)
        refine w_seq (fun K74 hK73 => ?_)
        refine w_block ?_
        refine w_seq (fun K76 hK75 => ?_)
        have hq2 : q < (choices (fitR l (Ha.ways l 0) g.toNat l.bunches.length).length k).length := by omega
        obtain ⟨bx, ox, b2, c2, hac, hx0, hsx0, hnx⟩ := el_at hslC helC hq2
        subst hac
        have hx := hx0.top (F := (FB ++ (B ++ ((b3, blk 26 (l.cells p)) :: F))))
        have hxl := (hcl _ (List.getElem_mem hq2)).1
        refine w_region ?_
        refine w_pure want_none (y_assign (v := _) rfl rfl) rfl ?_
        refine w_nil ?_
        refine q_then (hK75 _ _ ?_)
        refine w_seq (fun K78 hK77 => ?_)
        refine w_seq (fun K80 hK79 => ?_)
        refine w_region ?_
        refine w_pure want_none (y_assign (v := _) rfl rfl) rfl ?_
        refine w_nil ?_
        refine q_then (hK79 _ _ ?_)
        refine w_block ?_
        refine w_loop [14, 15, 58, 59, 60, 61, 62, 63, 64, 65, 66, 67, 68, 69, 70, 71, 72, 73, 74, 75] [14, 15] (fun kk vs0 w => ∃ (j : Nat) (v : Value) (NB : List (Nat × Obj)), vs0 = [v, .int .i64 j] ∧ j ≤ k ∧ kk = k - j ∧ Rt.Own v 3 1 ((pickL (fitR l (Ha.ways l 0) g.toNat l.bunches.length) ((choices (fitR l (Ha.ways l 0) g.toNat l.bunches.length).length k)[q]'hq2)).take j).length (iv ((pickL (fitR l (Ha.ways l 0) g.toNat l.bunches.length) ((choices (fitR l (Ha.ways l 0) g.toNat l.bunches.length).length k)[q]'hq2)).take j)) NB ∧ St w0 w (NB ++ (CB ++ (FB ++ (B ++ ((b3, blk 26 (l.cells p)) :: F)))))) (k) ?_ ?_
        ·
         exact ⟨0, _, [], rfl, by omega, by omega, own_nil 3 1, hs⟩
        ·
         intro k vs μ w83 hI K82 hN81
         obtain ⟨j, v, NB, rfl, hja, rfl, hown, hs⟩ := hI
         refine w_seq (fun K85 hK84 => ?_)
         refine w_seq (fun K87 hK86 => ?_)
         refine w_region ?_
         refine w_pure want_none (y_move (v := .int _ _) rfl rfl) rfl ?_
         refine w_pure want_none (y_move (v := .int _ _) rfl rfl) rfl ?_
         refine w_pure want_none (y_lss rfl rfl rfl rfl) rfl ?_
         refine w_nil ?_
         refine q_then (hK86 _ _ ?_)
         refine w_cond rfl rfl (fun h88 => ?_) (fun h88 => ?_)
         ·
          try simp only [Bool.not_eq_true', Bool.not_eq_false', decide_eq_true_eq, decide_eq_false_iff_not, Int.not_lt, Int.not_le] at h88
          refine w_skip ?_
          refine q_then (hK84 _ _ ?_)
          refine w_seq (fun K90 hK89 => ?_)
          refine w_block ?_
          have hj2 : j < ((choices (fitR l (Ha.ways l 0) g.toNat l.bunches.length).length k)[q]'hq2).length := by omega
          obtain ⟨by_, oy, hby, hy0⟩ := sl_ints hsx0 hj2
          subst hby
          have hpi := pick_idx hq2 hj2
          obtain ⟨bz, oz, hbz, hz0⟩ := sl_ints hslF hpi.2
          subst hbz
          have hy := hy0.top (F := (FB ++ (B ++ ((b3, blk 26 (l.cells p)) :: F))))
          have hz := hz0.top (F := (B ++ ((b3, blk 26 (l.cells p)) :: F)))
          have hnl : (((pickL (fitR l (Ha.ways l 0) g.toNat l.bunches.length) ((choices (fitR l (Ha.ways l 0) g.toNat l.bunches.length).length k)[q]'hq2)).take j)).length = j := by rw [List.length_take, pickL_len]; omega
          refine w_region ?_
          refine w_pure want_none (y_move (v := v) rfl rfl) rfl ?_
          refine w_pure want_none (y_move (v := .slice _ _ _) rfl rfl) rfl ?_
          refine w_pure want_none (y_move (v := .slice _ _ _) rfl rfl) rfl ?_
          refine w_pure want_none (y_move (v := .int _ _) rfl rfl) rfl ?_
          refine w_pure want_none (y_indexS Try.underlying64 Try.sizeOf37 rfl rfl rfl rfl (i := _) rfl (by omega)) rfl ?_
          refine w_pure want_none (y_load1 Try.isAgg37 hs.drop rfl rfl hx) rfl ?_
          refine w_pure want_none (y_move (v := .int _ _) rfl rfl) rfl ?_
          refine w_pure want_none (y_indexS Try.underlying37 Try.sizeOf3 rfl rfl rfl rfl (i := j) rfl (by omega)) rfl ?_
          refine w_pure want_none (y_load1 Try.isAgg3 hs.drop rfl rfl hy) rfl ?_
          refine w_pure want_none (y_indexS Try.underlying37 Try.sizeOf3 rfl rfl rfl rfl (i := (((choices (fitR l (Ha.ways l 0) g.toNat l.bunches.length).length k)[q]'hq2)[j]'hj2).toNat) (by omega) (by omega)) rfl ?_
          refine w_pure want_none (y_load1 Try.isAgg3 hs.drop.drop rfl rfl hz) rfl ?_
          refine w_bslice (ps := [(0, _)]) (pv := [(0, .int _ _)]) (cs := [_]) want_none rfl rfl (fun w => Try_Ye_fb6 _ w) hs (fun b91 w92 hs93 => ?_)
          refine w_append (X := (_ :: [])) (B := NB) (rows := [[_]]) (sz := 1) (bytes := 8) want_none Try.underlying37 Try_info3 rfl rfl rfl rfl rfl rfl rfl rfl rfl hs93 hown (sl_own (i := 0) rfl (by simp) rfl) rfl (by simp) (by simp [Value.oneCell']) (by simp only [maxLen]; omega) (by omega) (fun v94 w95 B96 ho97 hs98 => ?_)
          replace hs98 := (show St _ _ (_ :: B96 ++ (CB ++ (FB ++ (B ++ (_ :: F))))) from hs98)
          refine w_pure want_none (y_assign (v := v94) rfl rfl) rfl ?_
          refine w_nil ?_
          refine q_blk_normal ?_
          refine q_then (hK89 _ _ ?_)
          refine w_region ?_
          refine w_pure want_none (y_move (v := .int _ _) rfl rfl) rfl ?_
          refine w_pure want_none (y_add rfl rfl rfl rfl (by omega) (by omega)) rfl ?_
          refine w_pure want_none (y_assign (v := .int _ _) rfl rfl) rfl ?_
          refine w_nil ?_
          refine q_then (hN81 _ _ (Nx.intro (k - (j + 1)) (by omega) (by repeat (first | exact agree_mix | refine agree_upd rfl ?_ | refine agree_updL rfl ?_ _ | refine agree_mixin rfl ?_)) ?_))
          exact ⟨j + 1, _, _, rfl, by omega, rfl, by rw [pickL_step hj2 hpi.2]; exact own_snoc ho97, hs98.tail⟩
         ·
          try simp only [Bool.not_eq_true', Bool.not_eq_false', decide_eq_true_eq, decide_eq_false_iff_not, Int.not_lt, Int.not_le] at h88
          refine w_exit ?_
          refine q_then_exit ?_
          refine q_then_exit ?_
          refine q_blk_this ?_
          refine q_then (hK77 _ _ ?_)
          refine w_seq (fun K100 hK99 => ?_)
          have hjk : k = j := by omega
          subst hjk
          rw [List.take_of_length_le (by rw [pickL_len]; omega)] at hown
          obtain ⟨aN, cN, rfl, hslN, _, _⟩ := own_ints (w0 := w0) hown
          have hpl : (pickL (fitR l (Ha.ways l 0) g.toNat l.bunches.length) ((choices (fitR l (Ha.ways l 0) g.toNat l.bunches.length).length k)[q]'hq2)).length ≤ 6 := by rw [pickL_len]; omega
          have hpin := pickL_in hq2
          refine w_region ?_
          refine w_pure want_none (y_move (v := .slice _ _ _) rfl rfl) rfl ?_
          refine w_pure want_none (y_move (v := .slice _ _ _) rfl rfl) rfl ?_
          refine w_call want_none Try.call48 rfl rfl rfl rfl (c48 _ _ (Ha.ways l 0) vs hslB.top.app.app.app helB.top.app.app.app hwl l.bunches.length (fun h hh => way_len hh) (fun h hh => way_in hok hh) _ _ (pickL (fitR l (Ha.ways l 0) g.toNat l.bunches.length) ((choices (fitR l (Ha.ways l 0) g.toNat l.bunches.length).length k)[q]'hq2)) hpl (fun z hz => hfi.2 z (hpin z hz)) hslN.top hs) ?_
          rintro _ w102 ⟨rfl, hs103⟩
          refine w_pure want_none (y_move (v := .int _ _) rfl rfl) rfl ?_
          refine w_pure want_none (y_geq rfl rfl rfl rfl) rfl ?_
          refine w_nil ?_
          refine q_then (hK99 _ _ ?_)
          refine w_cond rfl rfl (fun h104 => ?_) (fun h104 => ?_)
          ·
           try simp only [Bool.not_eq_true', Bool.not_eq_false', decide_eq_true_eq, decide_eq_false_iff_not, Int.not_lt, Int.not_le] at h104
           refine w_seq (fun K106 hK105 => ?_)
           refine w_region ?_
           refine w_pure want_none (y_move (v := .slice _ _ _) rfl rfl) rfl ?_
           refine w_pure want_none (y_assign (v := .slice _ _ _) rfl rfl) rfl ?_
           refine w_pure want_none (y_assign (v := _) rfl rfl) rfl ?_
           refine w_nil ?_
           refine q_then (hK105 _ _ ?_)
           refine w_ret ?_
           refine q_blk_ret ?_
           refine q_then_ret ?_
           refine q_then_ret ?_
           refine q_blk_ret ?_
           refine q_blk_ret ?_
           refine q_then_ret ?_
           refine q_then_ret ?_
           refine q_blk_ret ?_
           refine q_then_ret ?_
           refine q_ret (l := [.tmp 6, .tmp 7]) (vs := [_, _]) rfl ⟨⟨rfl, show _ = (.slice _ _ _ : Value) from rfl⟩, ⟨rfl, show _ = (.int _ _ : Value) from rfl⟩, trivial⟩ ?_
           first
             | (have hq := pickP_some (by rw [← pickC_enter]; exact hee) (find_here (by omega) hf1 hf2 hq2 (decide_eq_true (by omega)))
                exact ⟨NB, aN, cN, by rw [hq]; rfl, by rw [hq]; exact hslN, (kq_own (kq_opq (kq_opq (kq_opq hs103))))⟩)
             | (have hkn : k = (fitR l (Ha.ways l 0) g.toNat l.bunches.length).length + 1 := by omega
                subst hkn
                have hq := pickP_none (by rw [← pickC_enter]; exact hee) hf1
                exact ⟨[], none, 0, by rw [hq]; rfl, by rw [hq]; exact Sl.nil _ _, hs103.drop.drop.drop.drop.tail⟩)
          ·
           try simp only [Bool.not_eq_true', Bool.not_eq_false', decide_eq_true_eq, decide_eq_false_iff_not, Int.not_lt, Int.not_le] at h104
           refine w_skip ?_
           refine q_blk_normal ?_
           refine q_then (hK73 _ _ ?_)
           refine w_region ?_
           refine w_pure want_none (y_move (v := .int _ _) rfl rfl) rfl ?_
           refine w_pure want_none (y_add rfl rfl rfl rfl (by omega) (by omega)) rfl ?_
           refine w_pure want_none (y_assign (v := .int _ _) rfl rfl) rfl ?_
           refine w_nil ?_
           refine q_then (hN65 _ _ (Nx.intro ((choices (fitR l (Ha.ways l 0) g.toNat l.bunches.length).length k).length - (q + 1)) (by omega) (by repeat (first | exact agree_mix | refine agree_upd rfl ?_ | refine agree_updL rfl ?_ _ | refine agree_mixin rfl ?_)) ?_))
           exact ⟨q + 1, rfl, by omega, rfl, find_next hf2 hq2 (decide_eq_false (by omega)), hs103.drop⟩
       ·
        try simp only [Bool.not_eq_true', Bool.not_eq_false', decide_eq_true_eq, decide_eq_false_iff_not, Int.not_lt, Int.not_le] at h72
        refine w_exit ?_
        refine q_then_exit ?_
        refine q_then_exit ?_
        refine q_blk_this ?_
        refine q_blk_normal ?_
        refine q_then (hK56 _ _ ?_)
        refine w_region ?_
        refine w_pure want_none (y_move (v := .int _ _) rfl rfl) rfl ?_
        refine w_pure want_none (y_add rfl rfl rfl rfl (by omega) (by omega)) rfl ?_
        refine w_pure want_none (y_assign (v := .int _ _) rfl rfl) rfl ?_
        refine w_nil ?_
        refine q_then (hN48 _ _ (Nx.intro ((fitR l (Ha.ways l 0) g.toNat l.bunches.length).length + 1 - (k + 1)) (by omega) (by repeat (first | exact agree_mix | refine agree_upd rfl ?_ | refine agree_updL rfl ?_ _ | refine agree_mixin rfl ?_)) ?_))
        exact ⟨k + 1, rfl, by omega, by omega, find_on hf1 hf2 (by omega), hs.drop⟩
     ·
      try simp only [Bool.not_eq_true', Bool.not_eq_false', decide_eq_true_eq, decide_eq_false_iff_not, Int.not_lt, Int.not_le] at h55
      refine w_exit ?_
      refine q_then_exit ?_
      refine q_then_exit ?_
      refine q_blk_this ?_
      refine q_then (hK44 _ _ ?_)
      refine w_seq (fun K108 hK107 => ?_)
      refine w_region ?_
      refine w_pure want_none (y_assign (v := _) rfl rfl) rfl ?_
      refine w_pure want_none (y_assign (v := _) rfl rfl) rfl ?_
      refine w_nil ?_
      refine q_then (hK107 _ _ ?_)
      refine w_ret ?_
      refine q_ret (l := [.tmp 6, .tmp 7]) (vs := [_, _]) rfl ⟨⟨rfl, show _ = (.slice _ _ _ : Value) from rfl⟩, ⟨rfl, show _ = (.int _ _ : Value) from rfl⟩, trivial⟩ ?_
      first
        | (have hq := pickP_some (by rw [← pickC_enter]; exact hee) (find_here (by omega) hf1 hf2 hq2 (decide_eq_true (by omega)))
           exact ⟨NB, aN, cN, by rw [hq]; rfl, by rw [hq]; exact hslN, (kq_own (kq_opq hs))⟩)
        | (have hkn : k = (fitR l (Ha.ways l 0) g.toNat l.bunches.length).length + 1 := by omega
           subst hkn
           have hq := pickP_none (by rw [← pickC_enter]; exact hee) hf1
           exact ⟨[], none, 0, by rw [hq]; rfl, by rw [hq]; exact Sl.nil _ _, hs.drop.drop.tail⟩)

end Go.Proofs
/- Walks of this seat, printed by gen.py over the engine: what each function returns, in whatever world. No conditions but those of each contract. -/
set_option linter.unusedVariables false
set_option linter.unusedSimpArgs false
set_option maxRecDepth 20000
namespace Go.Proofs
open Go.Rt Go.Rt.Ha
attribute [local irreducible] WL WC Con Yd At Ats Sl Agree DW

theorem pick_short (l : Lot) (g m : Int) : (pickP l g m).1.length ≤ 6 := by
  unfold pickP
  split
  · simp
  · rename_i h
    have hok := check_ok (enterE_zero (Decidable.not_not.1 h)).1
    have h1 := hok.lb
    split
    · have := few_len (pickDo l g.toNat m) l.bunches.length (1 <<< l.bunches.length)
      unfold fewest; dsimp only; omega
    · simp
theorem c6 {w0 w : World} {F : List (Nat × Obj)} (l : Lot) (p : At3) (hm : LIn w0 F l p) (g m : Int) (hg : -9223372036854775808 ≤ g ∧ g ≤ 9223372036854775807) (hmm : -9223372036854775808 ≤ m ∧ m ≤ 9223372036854775807) (hs : St w0 w F) :
  Con Try.prog 6 [.agg (l.cells p).toArray, .agg #[.int .i64 g, .int .i64 m]] w fun v w' => v = .bool true ∧ St w0 w' F := by
  refine con_of_wc (n := 38) Try.func6 rfl rfl (Nat.le_of_ble_eq_true rfl) ?_
  refine w_seq (fun K2 hK1 => ?_)
  refine w_region ?_
  refine w_box (v := .agg #[.slice _ _ _, .slice _ _ _, .slice _ _ _]) (cs := [_, _, _]) want_none rfl rfl rfl hs (fun b3 w4 hs5 => ?_)
  refine w_box (v := .agg #[.int _ _, .int _ _]) (cs := [_, _]) want_none rfl rfl rfl hs5 (fun b6 w7 hs8 => ?_)
  refine w_pure want_none (y_assign (v := _) rfl rfl) rfl ?_
  refine w_nil ?_
  refine q_then (hK1 _ _ ?_)
  refine w_seq (fun K10 hK9 => ?_)
  have hbx := ats_of (i := 1) (vs := l.cells p) hs8 rfl rfl
  have hb3 := ats_of (i := 0) (vs := [_, _]) hs8 rfl rfl
  refine w_region ?_
  refine w_pure want_none (y_loadN (vs := [_, _, _]) Try.isAgg26 Try.sizeOf26 hs8 rfl rfl hbx) rfl ?_
  refine w_pure want_none (y_indexA Try.underlying44 Try.sizeOf3 rfl rfl rfl rfl (i := 0) rfl (by omega)) rfl ?_
  refine w_pure want_none (y_load1 Try.isAgg3 hs8 rfl rfl (show Ats _ _ _ _ [_] from Ats.part hb3 0 1)) rfl ?_
  refine w_pure want_none (y_indexA Try.underlying44 Try.sizeOf3 rfl rfl rfl rfl (i := 1) rfl (by omega)) rfl ?_
  refine w_pure want_none (y_load1 Try.isAgg3 hs8 rfl rfl (show Ats _ _ _ _ [_] from Ats.part hb3 1 1)) rfl ?_
  refine w_call want_none Try.call30 rfl rfl rfl rfl (c30 l _ hm.cons.cons g m hs8) ?_
  rintro _ w12 ⟨B1, a1, c1, rfl, hq1, hs13⟩
  replace hs13 := (show St _ _ (B1 ++ (_ :: _ :: F)) from hs13)
  refine w_pure want_none (y_move (v := .tuple _) rfl rfl) rfl ?_
  refine w_pure want_none (y_extract (v := .slice _ _ _) rfl rfl rfl) rfl ?_
  refine w_pure want_none (y_extract (v := .int _ _) rfl rfl rfl) rfl ?_
  refine w_pure want_none (y_assign (v := .slice _ _ _) rfl rfl) rfl ?_
  refine w_pure want_none (y_assign (v := .int _ _) rfl rfl) rfl ?_
  refine w_nil ?_
  refine q_then (hK9 _ _ ?_)
  refine w_seq (fun K15 hK14 => ?_)
  refine w_region ?_
  refine w_pure want_none (y_loadN (vs := [_, _, _]) Try.isAgg26 Try.sizeOf26 hs13.drop rfl rfl hbx) rfl ?_
  refine w_pure want_none (y_indexA Try.underlying44 Try.sizeOf3 rfl rfl rfl rfl (i := 0) rfl (by omega)) rfl ?_
  refine w_pure want_none (y_load1 Try.isAgg3 hs13.drop rfl rfl (show Ats _ _ _ _ [_] from Ats.part hb3 0 1)) rfl ?_
  refine w_pure want_none (y_indexA Try.underlying44 Try.sizeOf3 rfl rfl rfl rfl (i := 1) rfl (by omega)) rfl ?_
  refine w_pure want_none (y_load1 Try.isAgg3 hs13.drop rfl rfl (show Ats _ _ _ _ [_] from Ats.part hb3 1 1)) rfl ?_
  refine w_call want_none Try.call31 rfl rfl rfl rfl (c31 l _ hm.cons.cons.app g m hs13) ?_
  rintro _ w17 ⟨B2, a2, c2, rfl, hq2, hs18⟩
  replace hs18 := (show St _ _ (B2 ++ (B1 ++ (_ :: _ :: F))) from hs18)
  refine w_pure want_none (y_move (v := .tuple _) rfl rfl) rfl ?_
  refine w_pure want_none (y_extract (v := .slice _ _ _) rfl rfl rfl) rfl ?_
  refine w_pure want_none (y_extract (v := .int _ _) rfl rfl rfl) rfl ?_
  refine w_pure want_none (y_assign (v := .slice _ _ _) rfl rfl) rfl ?_
  refine w_pure want_none (y_assign (v := .int _ _) rfl rfl) rfl ?_
  refine w_nil ?_
  refine q_then (hK14 _ _ ?_)
  refine w_seq (fun K20 hK19 => ?_)
  refine w_region ?_
  refine w_pure want_none (y_move (v := .slice _ _ _) rfl rfl) rfl ?_
  refine w_pure want_none (y_move (v := .slice _ _ _) rfl rfl) rfl ?_
  refine w_call want_none Try.call25 rfl rfl rfl rfl (c25 _ _ (pickP l g m).1 (pickP l g m).1 _ _ (by have := pick_short l g m; omega) hq1.top.app hq2.top hs18) ?_
  rintro _ w22 ⟨rfl, hs23⟩
  refine w_pure want_none (y_move (v := .bool _) rfl rfl) rfl ?_
  refine w_split (fun h24 => ?_) (fun h24 => ?_)
  ·
   try simp only [Bool.not_eq_true', Bool.not_eq_false', decide_eq_true_eq, decide_eq_false_iff_not, Int.not_lt, Int.not_le] at h24
   refine w_pure (want_yes rfl rfl rfl) (y_move (v := .int _ _) rfl rfl) rfl ?_
   refine w_pure (want_yes rfl rfl rfl) (y_move (v := .int _ _) rfl rfl) rfl ?_
   refine w_pure (want_yes rfl rfl rfl) (y_eql rfl rfl rfl rfl) rfl ?_
   refine w_pure want_none (y_pickT (v := .bool _) rfl rfl rfl rfl) rfl ?_
   refine w_pure want_none (y_move (v := .bool _) rfl rfl) rfl ?_
   refine w_split (fun h25 => ?_) (fun h25 => ?_)
   ·
    try simp only [Bool.not_eq_true', Bool.not_eq_false', decide_eq_true_eq, decide_eq_false_iff_not, Int.not_lt, Int.not_le] at h25
    refine w_call (want_yes rfl rfl rfl) Try.call20 rfl rfl rfl rfl (c20 hs23) ?_
    rintro _ w27 ⟨rfl, hs28⟩
    refine w_pure want_none (y_pickT (v := .bool _) rfl rfl rfl rfl) rfl ?_
    refine w_pure want_none (y_assign (v := .bool _) rfl rfl) rfl ?_
    refine w_nil ?_
    refine q_then (hK19 _ _ ?_)
    refine w_ret ?_
    refine q_ret (l := [.tmp 4]) (vs := [_]) rfl ⟨⟨rfl, show _ = (.bool _ : Value) from rfl⟩, trivial⟩ ?_
    exact ⟨rfl, hs28.drop.drop.tail.tail⟩
   ·
    exfalso; simp at h25
  ·
   exfalso; simp at h24

end Go.Proofs
