/- Own texts of this claim, joined. No conditions. -/
import Derived.Test.YtiemgahjdgajmaaHHandTruea
import Derived.Test.YtiemgahjdgajmaaHHandTrueb
import Derived.Test.YtiemgahjdgajmaaHHandTruec
import Derived.Test.YtiemgahjdgajmaaHHandTrued
import Derived.Test.YtiemgahjdgajmaaHHandTruee
import Derived.Test.YtiemgahjdgajmaaHHandTruef
import Derived.Test.YtiemgahjdgajmaaHHandTrueg
/- Walks of this seat, printed by gen.py over the engine: what each function returns, in whatever world. No conditions but those of each contract. -/
set_option linter.unusedVariables false
set_option linter.unusedSimpArgs false
set_option maxRecDepth 20000
namespace Go.Proofs
open Go.Rt Go.Rt.Ha
attribute [local irreducible] WL WC Con Yd At Ats Sl Agree DW

theorem c9 {w0 w : World} {F : List (Nat × Obj)} (l : Lot) (p : At3) (hm : LIn w0 F l p) (hnG : p.ag = none → p.cg = 0) (hnB : p.ab = none → p.cb = 0) (hnC : p.ac = none → p.cc = 0) (z : Int) (hz : 0 ≤ z ∧ z ≤ 65535) (ay : Option Addr) (cy : Nat) (y : List Int) (hyl : y.length ≤ 9223372036854775807) (hys : Sl w0 F ay 1 (y.map fun n => [Value.int .u8 n])) (hyr : ∀ z ∈ y, 0 ≤ z ∧ z ≤ 255) (hs : St w0 w F) :
  Con Try.prog 9 [.agg (l.cells p).toArray, .int .u16 z, .slice ay y.length cy] w fun v w' => v = .bool true ∧ St w0 w' F := by
  refine con_of_wc (n := 209) Try.func9 rfl rfl (Nat.le_of_ble_eq_true rfl) ?_
  refine w_seq (fun K2 hK1 => ?_)
  refine w_region ?_
  refine w_box (v := .agg #[.slice _ _ _, .slice _ _ _, .slice _ _ _]) (cs := [_, _, _]) want_none rfl rfl rfl hs (fun b3 w4 hs5 => ?_)
  refine w_pure want_none (y_assign (v := _) rfl rfl) rfl ?_
  refine w_nil ?_
  refine q_then (hK1 _ _ ?_)
  refine w_seq (fun K7 hK6 => ?_)
  refine w_seq (fun K9 hK8 => ?_)
  refine w_region ?_
  refine w_pure want_none (y_loadN (vs := [_, _, _]) Try.isAgg26 Try.sizeOf26 hs5 rfl rfl (ats_own (i := 0) (vs := [_, _, _]) rfl rfl)) rfl ?_
  refine w_call want_none Try.call38 rfl rfl rfl rfl (c38 l _ hm.cons hs5) ?_
  rintro _ w11 ⟨rfl, hs12⟩
  refine w_pure want_none (y_not rfl rfl) rfl ?_
  refine w_nil ?_
  refine q_then (hK8 _ _ ?_)
  refine w_cond rfl rfl (fun h13 => ?_) (fun h13 => ?_)
  ·
   try simp only [Bool.not_eq_true', Bool.not_eq_false', decide_eq_true_eq, decide_eq_false_iff_not, Int.not_lt, Int.not_le] at h13
   refine w_seq (fun K15 hK14 => ?_)
   have hck : ¬ (check l).2.2 = 0 := by first | assumption | (intro h0; simp_all)
   refine w_region ?_
   refine w_pure want_none (y_loadN (vs := [_, _, _]) Try.isAgg26 Try.sizeOf26 hs12 rfl rfl (ats_own (i := 0) (vs := [_, _, _]) rfl rfl)) rfl ?_
   refine w_call want_none Try.call28 rfl rfl rfl rfl (c28 l _ hm.cons hs12) ?_
   rintro _ w17 ⟨B1, a1, c1, a12, c12, rfl, hq1, hr1, hs18⟩
   replace hs18 := (show St _ _ (B1 ++ (_ :: F)) from hs18)
   refine w_pure want_none (y_move (v := .tuple _) rfl rfl) rfl ?_
   refine w_pure want_none (y_extract (v := .slice _ _ _) rfl rfl rfl) rfl ?_
   refine w_pure want_none (y_extract (v := .slice _ _ _) rfl rfl rfl) rfl ?_
   refine w_pure want_none (y_extract (v := .int _ _) rfl rfl rfl) rfl ?_
   refine w_pure want_none (y_assign (v := .slice _ _ _) rfl rfl) rfl ?_
   refine w_pure want_none (y_assign (v := .slice _ _ _) rfl rfl) rfl ?_
   refine w_pure want_none (y_assign (v := .int _ _) rfl rfl) rfl ?_
   refine w_nil ?_
   refine q_then (hK14 _ _ ?_)
   refine w_seq (fun K20 hK19 => ?_)
   refine w_region ?_
   refine w_pure want_none (y_move (v := .int _ _) rfl rfl) rfl ?_
   refine w_pure want_none (y_neq rfl rfl rfl rfl) rfl ?_
   refine w_pure want_none (y_move (v := .bool _) rfl rfl) rfl ?_
   refine w_split (fun h21 => ?_) (fun h21 => ?_)
   ·
    try simp only [Bool.not_eq_true', Bool.not_eq_false', decide_eq_true_eq, decide_eq_false_iff_not, Int.not_lt, Int.not_le] at h21
    refine w_call (want_yes rfl rfl rfl) Try.call20 rfl rfl rfl rfl (c20 hs18) ?_
    rintro _ w23 ⟨rfl, hs24⟩
    refine w_pure want_none (y_pickT (v := .bool _) rfl rfl rfl rfl) rfl ?_
    refine w_pure want_none (y_assign (v := .bool _) rfl rfl) rfl ?_
    refine w_nil ?_
    refine q_then (hK19 _ _ ?_)
    refine w_ret ?_
    refine q_then_ret ?_
    refine q_ret (l := [.tmp 6]) (vs := [_]) rfl ⟨⟨rfl, show _ = (.bool _ : Value) from rfl⟩, trivial⟩ ?_
    exact ⟨rfl, hs24.drop.tail⟩
   ·
    exfalso
    try simp only [Bool.not_eq_true', Bool.not_eq_false', decide_eq_true_eq, decide_eq_false_iff_not, Int.not_lt, Int.not_le] at h21
    exact ref_bad hck (by simpa using h21)
  ·
   try simp only [Bool.not_eq_true', Bool.not_eq_false', decide_eq_true_eq, decide_eq_false_iff_not, Int.not_lt, Int.not_le] at h13
   refine w_skip ?_
   refine q_then (hK6 _ _ ?_)
   refine w_seq (fun K26 hK25 => ?_)
   have hck : (check l).2.2 = 0 := by first | assumption | (refine Decidable.byContradiction fun h0 => ?_; simp_all)
   have hok := check_ok hck
   refine w_region ?_
   refine w_pure want_none (y_loadN (vs := [_, _, _]) Try.isAgg26 Try.sizeOf26 hs12 rfl rfl (ats_own (i := 0) (vs := [_, _, _]) rfl rfl)) rfl ?_
   refine w_pure want_none (y_move (v := .int _ _) rfl rfl) rfl ?_
   refine w_call want_none Try.call39 rfl rfl rfl rfl (c39 l _ hm.cons hok hnC z hz hs12) ?_
   rintro _ w28 ⟨h, p2, TB, aH, cH, hf, rfl, hmT, hslH, hs29⟩
   replace hs29 := (show St _ _ (TB ++ (_ :: F)) from hs29)
   refine w_pure want_none (y_move (v := .tuple _) rfl rfl) rfl ?_
   refine w_pure want_none (y_extract (v := .agg _) rfl rfl rfl) rfl ?_
   refine w_pure want_none (y_extract (v := .slice _ _ _) rfl rfl rfl) rfl ?_
   refine w_alloc (cs := [_, _, _]) want_none Try.zeroValue26 rfl hs29 (fun b30 w31 hs32 => ?_)
   refine w_store (i := 0) (v := .agg #[.slice _ _ _, .slice _ _ _, .slice _ _ _]) (vs := [_, _, _]) want_none Try.sizeOf26 rfl rfl rfl rfl rfl (by simp [Value.oneCell']) hs32 rfl (Nat.le_of_ble_eq_true rfl) (fun w33 hs34 => ?_)
   refine w_pure want_none (y_assign (v := .slice _ _ _) rfl rfl) rfl ?_
   refine w_nil ?_
   refine q_then (hK25 _ _ ?_)
   refine w_seq (fun K36 hK35 => ?_)
   have hokT := check_ok (told_check hck hf)
   have hfa := felt_at hok hf
   have hhl := hfa.1
   have hh12 := hfa.2
   have hW := told_wrong hck hf
   have hR0 := told_ref hck hf
   have hb10 := ats_of (i := 0) (vs := (told l h).cells p2) hs34 rfl rfl
   refine w_region ?_
   refine w_pure want_none (y_loadN (vs := [_, _, _]) Try.isAgg26 Try.sizeOf26 hs34 rfl rfl hb10) rfl ?_
   refine w_pure want_none (y_move (v := .slice _ _ _) rfl rfl) rfl ?_
   refine w_call want_none Try.call40 rfl rfl rfl rfl (c40 (told l h) p2 hmT.cons hokT _ _ y hyl hys.cons.app.cons hyr hs34) ?_
   rintro _ w38 ⟨SB, aS, cS, rfl, hslS, hs39⟩
   replace hs39 := (show St _ _ (SB ++ (_ :: TB ++ (_ :: F))) from hs39)
   refine w_pure want_none (y_assign (v := .slice _ _ _) rfl rfl) rfl ?_
   refine w_nil ?_
   refine q_then (hK35 _ _ ?_)
   refine w_seq (fun K41 hK40 => ?_)
   refine w_region ?_
   refine w_pure want_none (y_loadN (vs := [_, _, _]) Try.isAgg26 Try.sizeOf26 hs39.drop rfl rfl hb10) rfl ?_
   refine w_call want_none Try.call34 rfl rfl rfl rfl (c34 (told l h) p2 hmT.cons.app hs39) ?_
   rintro _ w43 ⟨WB, aW, cW, rfl, hqW, hs44⟩
   replace hs44 := (show St _ _ (WB ++ (SB ++ (_ :: TB ++ (_ :: F)))) from hs44)
   refine w_pure want_none (y_move (v := .tuple _) rfl rfl) rfl ?_
   refine w_pure want_none (y_extract (v := .slice _ _ _) rfl rfl rfl) rfl ?_
   refine w_pure want_none (y_extract (v := .int _ _) rfl rfl rfl) rfl ?_
   refine w_pure want_none (y_assign (v := .slice _ _ _) rfl rfl) rfl ?_
   refine w_pure want_none (y_assign (v := .int _ _) rfl rfl) rfl ?_
   refine w_nil ?_
   refine q_then (hK40 _ _ ?_)
   refine w_seq (fun K46 hK45 => ?_)
   refine w_region ?_
   refine w_pure want_none (y_loadN (vs := [_, _, _]) Try.isAgg26 Try.sizeOf26 hs44.drop.drop rfl rfl hb10) rfl ?_
   refine w_call want_none Try.call28 rfl rfl rfl rfl (c28 (told l h) p2 hmT.cons.app.app hs44) ?_
   rintro _ w48 ⟨B2, a2, c2, a22, c22, rfl, hq2, hr2, hs49⟩
   replace hs49 := (show St _ _ (B2 ++ (WB ++ (SB ++ (_ :: TB ++ (_ :: F))))) from hs49)
   refine w_pure want_none (y_move (v := .tuple _) rfl rfl) rfl ?_
   refine w_pure want_none (y_extract (v := .slice _ _ _) rfl rfl rfl) rfl ?_
   refine w_pure want_none (y_extract (v := .slice _ _ _) rfl rfl rfl) rfl ?_
   refine w_pure want_none (y_extract (v := .int _ _) rfl rfl rfl) rfl ?_
   refine w_pure want_none (y_assign (v := .slice _ _ _) rfl rfl) rfl ?_
   refine w_pure want_none (y_assign (v := .slice _ _ _) rfl rfl) rfl ?_
   refine w_pure want_none (y_assign (v := .int _ _) rfl rfl) rfl ?_
   refine w_nil ?_
   refine q_then (hK45 _ _ ?_)
   refine w_seq (fun K51 hK50 => ?_)
   refine w_seq (fun K53 hK52 => ?_)
   refine w_region ?_
   refine w_pure want_none (y_move (v := .int _ _) rfl rfl) rfl ?_
   refine w_pure want_none (y_neq rfl rfl rfl rfl) rfl ?_
   refine w_pure want_none (y_move (v := .bool _) rfl rfl) rfl ?_
   refine w_split (fun h54 => ?_) (fun h54 => ?_)
   ·
    exfalso
    try simp only [Bool.not_eq_true', Bool.not_eq_false', decide_eq_true_eq, decide_eq_false_iff_not, Int.not_lt, Int.not_le] at h54
    rw [hW] at h54; simp at h54
   ·
    try simp only [Bool.not_eq_true', Bool.not_eq_false', decide_eq_true_eq, decide_eq_false_iff_not, Int.not_lt, Int.not_le] at h54
    refine w_pure (want_yes rfl rfl rfl) (y_move (v := .int _ _) rfl rfl) rfl ?_
    refine w_pure (want_yes rfl rfl rfl) (y_neq rfl rfl rfl rfl) rfl ?_
    refine w_pure want_none (y_pickF (v := .bool _) rfl rfl rfl rfl) rfl ?_
    refine w_pure want_none (y_move (v := .bool _) rfl rfl) rfl ?_
    refine w_split (fun h55 => ?_) (fun h55 => ?_)
    ·
     exfalso
     try simp only [Bool.not_eq_true', Bool.not_eq_false', decide_eq_true_eq, decide_eq_false_iff_not, Int.not_lt, Int.not_le] at h55
     rw [hR0] at h55; simp at h55
    ·
     try simp only [Bool.not_eq_true', Bool.not_eq_false', decide_eq_true_eq, decide_eq_false_iff_not, Int.not_lt, Int.not_le] at h55
     refine w_pure (want_yes rfl rfl rfl) (y_move (v := .slice _ _ _) rfl rfl) rfl ?_
     refine w_pure (want_yes rfl rfl rfl) (y_lenS Try.underlying37 rfl rfl) rfl ?_
     refine w_pure (want_yes rfl rfl rfl) (y_gtr rfl rfl rfl rfl) rfl ?_
     refine w_pure want_none (y_pickF (v := .bool _) rfl rfl rfl rfl) rfl ?_
     refine w_nil ?_
     refine q_then (hK52 _ _ ?_)
     refine w_cond rfl rfl (fun h56 => ?_) (fun h56 => ?_)
     ·
      exfalso
      try simp only [Bool.not_eq_true', Bool.not_eq_false', decide_eq_true_eq, decide_eq_false_iff_not, Int.not_lt, Int.not_le] at h56
      rw [hW] at h56; simp at h56
     ·
      try simp only [Bool.not_eq_true', Bool.not_eq_false', decide_eq_true_eq, decide_eq_false_iff_not, Int.not_lt, Int.not_le] at h56
      refine w_skip ?_
      refine q_then (hK50 _ _ ?_)
      refine w_seq (fun K58 hK57 => ?_)
      obtain ⟨Z, hZ, hsZ⟩ := gen_Z hs49
      have hb10 : Ats w0 Z b30 0 ((told l h).cells p2) := by rw [hZ]; exact hb10.app.app.app
      have hmZ : LIn w0 Z (told l h) p2 := by rw [hZ]; exact hmT.cons.app.app.app
      have hHZ : Sl w0 Z aH 1 (h.map fun x => [Value.int .i64 x]) := by rw [hZ]; exact hslH.top.cons.app.app.app
      have hSZ : Sl w0 Z aS 1 ((scTo (told l h) y (told l h).bunches.length).map fun x => [Value.int .i64 x]) := by rw [hZ]; exact hslS.top.app.app
      have hRZ : Sl w0 Z a2 1 ((refusedP (told l h)).1.map fun x => [Value.int .i64 x]) := by rw [hZ]; exact hq2.top
      have hMZ : Sl w0 Z a22 1 ((refusedP (told l h)).2.1.map fun x => [Value.int .i64 x]) := by rw [hZ]; exact hr2.top
      have hlg := hok.lg
      have hrs := ref_sh (told l h)
      have hlb := hok.lb
      have htg : (told l h).grades.length = l.grades.length := rfl
      have htb : (told l h).bunches.length = l.bunches.length := rfl
      refine w_region ?_
      refine w_pure want_none (y_fieldAddr (o := 0) (i := 0) Try.underlying26 rfl Try.sizeOf22 rfl rfl rfl) rfl ?_
      refine w_pure want_none (y_load1 Try.isAgg22 hsZ rfl rfl (show Ats _ _ _ _ [_] from Ats.part hb10 0 1)) rfl ?_
      refine w_pure want_none (y_lenS Try.underlying22 rfl rfl) rfl ?_
      refine w_pure want_none (y_add rfl rfl rfl rfl (by omega) (by omega)) rfl ?_
      refine w_makeInts (k := (l.grades.length + 1)) want_none Try.underlying37 Try_info3 rfl rfl (by omega) rfl rfl rfl rfl rfl hsZ (fun b59 w60 hs61 => ?_)
      refine w_pure want_none (y_assign (v := .slice _ _ _) rfl rfl) rfl ?_
      refine w_nil ?_
      refine q_then (hK57 _ _ ?_)
      refine w_seq (fun K63 hK62 => ?_)
      refine w_region ?_
      refine w_pure want_none (y_assign (v := _) rfl rfl) rfl ?_
      refine w_nil ?_
      refine q_then (hK62 _ _ ?_)
      refine w_seq (fun K65 hK64 => ?_)
      refine w_seq (fun K67 hK66 => ?_)
      refine w_region ?_
      refine w_pure want_none (y_assign (v := _) rfl rfl) rfl ?_
      refine w_nil ?_
      refine q_then (hK66 _ _ ?_)
      refine w_block ?_
      refine w_loop [6, 19, 20, 21, 22, 23, 24, 25, 26, 80, 81, 82, 83, 84, 85, 86, 87, 88, 89, 90, 91, 92, 93, 94, 95, 96, 97, 98, 99, 100, 101, 102, 103, 104, 105, 106, 107, 108, 109, 110, 111, 112, 113, 114, 115, 116, 117, 118, 119, 120, 121, 122, 123, 124, 125, 126, 127, 128, 129, 130, 131, 132, 133, 134, 135, 136, 137, 138, 139, 140, 141, 142, 143, 144, 145, 146, 147, 148, 149, 150, 151, 152, 153, 154, 155, 156, 157, 158, 159, 160, 161, 162, 163, 164, 165, 166, 167, 168] [19, 20] (fun kk vs w => ∃ (k : Nat), vs = [.int .i64 (allSum h k), .int .i64 k] ∧ k ≤ l.bunches.length ∧ kk = l.bunches.length - k ∧ St w0 w ((b59, blk 3 (iv (smTo l h (scOf l y) k))) :: Z)) (l.bunches.length) ?_ ?_
      ·
       exact ⟨0, rfl, by omega, by omega, by rw [sm_zero]; exact hs61⟩
      ·
       intro k vs μ w70 hI K69 hN68
       obtain ⟨k, rfl, hka, rfl, hs⟩ := hI
       refine w_seq (fun K72 hK71 => ?_)
       refine w_seq (fun K74 hK73 => ?_)
       refine w_region ?_
       refine w_pure want_none (y_move (v := .int _ _) rfl rfl) rfl ?_
       refine w_pure want_none (y_move (v := .slice _ _ _) rfl rfl) rfl ?_
       refine w_pure want_none (y_lenS Try.underlying37 rfl rfl) rfl ?_
       refine w_pure want_none (y_lss rfl rfl rfl rfl) rfl ?_
       refine w_nil ?_
       refine q_then (hK73 _ _ ?_)
       refine w_cond rfl rfl (fun h75 => ?_) (fun h75 => ?_)
       ·
        try simp only [Bool.not_eq_true', Bool.not_eq_false', decide_eq_true_eq, decide_eq_false_iff_not, Int.not_lt, Int.not_le] at h75
        refine w_skip ?_
        refine q_then (hK71 _ _ ?_)
        refine w_seq (fun K77 hK76 => ?_)
        refine w_block ?_
        refine w_seq (fun K79 hK78 => ?_)
        have hk2 : k < l.bunches.length := by omega
        have hkh : k < h.length := by omega
        have hks : k < (scTo (told l h) y (told l h).bunches.length).length := by rw [sc_len]; exact hk2
        have hag := at_g hkh
        have hsc : (scTo (told l h) y (told l h).bunches.length)[k] = scOf l y k := sc_at hks
        have hsi := sc_in hok (x := y) hk2
        have hTB := true_b hck hf hk2 hsi
        obtain ⟨c1, o1, he1, hh1⟩ := sl_ints hHZ hkh
        subst he1
        obtain ⟨c2x, o2x, he2, hsk1⟩ := sl_ints hSZ hks
        subst he2
        have hal := all_sum_in hh12 k (by omega)
        have hk12 := hh12 k hk2
        have hgsh := grade_sh (told l h) (k : Int)
        refine w_region ?_
        refine w_pure want_none (y_loadN (vs := [_, _, _]) Try.isAgg26 Try.sizeOf26 hs.tail rfl rfl hb10) rfl ?_
        refine w_pure want_none (y_move (v := .int _ _) rfl rfl) rfl ?_
        refine w_call want_none Try.call21 rfl rfl rfl rfl (c21 (told l h) _ hmZ.cons (k : Int) hs) ?_
        rintro _ w81 ⟨rfl, hs82⟩
        refine w_pure want_none (y_move (v := .tuple _) rfl rfl) rfl ?_
        refine w_pure want_none (y_extract (v := .agg _) rfl rfl rfl) rfl ?_
        refine w_pure want_none (y_extract (v := .int _ _) rfl rfl rfl) rfl ?_
        refine w_alloc (cs := [_, _]) want_none Try.zeroValue34 rfl hs82 (fun b83 w84 hs85 => ?_)
        refine w_store (i := 0) (v := .agg #[.int _ _, .int _ _]) (vs := [_, _]) want_none Try.sizeOf34 rfl rfl rfl rfl rfl (by simp [Value.oneCell']) hs85 rfl (Nat.le_of_ble_eq_true rfl) (fun w86 hs87 => ?_)
        refine w_pure want_none (y_assign (v := .int _ _) rfl rfl) rfl ?_
        refine w_nil ?_
        refine q_then (hK78 _ _ ?_)
        refine w_seq (fun K89 hK88 => ?_)
        refine w_region ?_
        refine w_pure want_none (y_loadN (vs := [_, _, _]) Try.isAgg26 Try.sizeOf26 hs87.tail.tail rfl rfl hb10) rfl ?_
        refine w_pure want_none (y_move (v := .int _ _) rfl rfl) rfl ?_
        refine w_call want_none Try.call23 rfl rfl rfl rfl (c23 (told l h) _ hmZ.cons.cons (k : Int) hs87) ?_
        rintro _ w91 ⟨GB, aG, cG, rfl, hqG, hs92⟩
        replace hs92 := (show St _ _ (GB ++ (_ :: _ :: Z)) from hs92)
        refine w_pure want_none (y_move (v := .tuple _) rfl rfl) rfl ?_
        refine w_pure want_none (y_extract (v := .slice _ _ _) rfl rfl rfl) rfl ?_
        refine w_pure want_none (y_extract (v := .int _ _) rfl rfl rfl) rfl ?_
        refine w_pure want_none (y_assign (v := .slice _ _ _) rfl rfl) rfl ?_
        refine w_pure want_none (y_assign (v := .int _ _) rfl rfl) rfl ?_
        refine w_nil ?_
        refine q_then (hK88 _ _ ?_)
        refine w_seq (fun K94 hK93 => ?_)
        have hs95 := St.perm (L := GB ++ ([_, _] ++ _)) hs92 (perm_mid GB [_, _] _)
        replace hs95 := (show St _ _ (_ :: _ :: (GB ++ _)) from hs95)
        refine w_draw [] [(0, 1), (1, 0), (2, 0), (3, 0), (4, 1), (5, 0), (6, 0), (7, 0), (8, 1), (9, 2), (10, 0)] Try_mo (drawOK_of (by kernel_rfl)) hs95 (fun w96 hs97 => ?_)
        refine d_take rfl want_none rfl hs97 (fun _ hq => (y_loadN (vs := [_, _, _]) Try.isAgg26 Try.sizeOf26 hq.tail.tail.drop rfl rfl hb10)) ?_
        refine d_any rfl want_none rfl (fun _ => (y_move (v := .slice _ _ _) rfl rfl)) ?_
        refine d_any rfl want_none rfl (fun _ => (y_move (v := .int _ _) rfl rfl)) ?_
        refine d_any rfl want_none rfl (fun _ => (y_indexS Try.underlying37 Try.sizeOf3 rfl rfl rfl rfl (i := k) rfl hkh)) ?_
        refine d_take rfl want_none rfl hs97 (fun _ hq => (y_load1 Try.isAgg3 hq.tail.tail.drop rfl rfl hh1)) ?_
        refine d_any rfl want_none rfl (fun _ => (y_move (v := .slice _ _ _) rfl rfl)) ?_
        refine d_any rfl want_none rfl (fun _ => (y_move (v := .int _ _) rfl rfl)) ?_
        refine d_any rfl want_none rfl (fun _ => (y_indexS Try.underlying37 Try.sizeOf3 rfl rfl rfl rfl (i := k) rfl hks)) ?_
        refine d_take rfl want_none rfl hs97 (fun _ hq => (y_load1 Try.isAgg3 hq.tail.tail.drop rfl rfl hsk1)) ?_
        refine d_eff rfl ?_
        refine w_call want_none Try.call41 rfl rfl rfl rfl ((c41 (told l h) p2 hmZ.app.cons.cons _ _ hs97).mono (fun v w2 q => by rw [← hag, hsc] at q; exact (show v = .int .i64 (ofG l.grades 0 (at_ h k) (scOf l y k)) ∧ _ from q))) ?_
        rintro _ w99 ⟨rfl, hs100⟩
        refine w_nil ?_
        refine qn ⟨hs100, ?_⟩
        refine d_any rfl want_none rfl (fun _ => (y_assign (v := .int _ _) rfl rfl)) ?_
        refine d_nil ?_
        refine q_then (hK93 _ _ ?_)
        refine w_seq (fun K102 hK101 => ?_)
        have hog := ofG_range (at_ h k) (scOf l y k) l.grades 0 (by omega)
        obtain ⟨g, hg⟩ : ∃ g : Nat, (ofG l.grades 0 (at_ h k) (scOf l y k)) + 1 = (g : Int) := ⟨((ofG l.grades 0 (at_ h k) (scOf l y k)) + 1).toNat, by omega⟩
        have hg2 : g < l.grades.length + 1 := by omega
        have hos := of_sum_in (sc := scOf l y) hh12 ((g : Int) - 1) k (by omega)
        have hsg := sm_get (l := l) (h := h) (sc := scOf l y) (k := k) hg2
        refine w_region ?_
        refine w_pure want_none (y_move (v := .int _ _) rfl rfl) rfl ?_
        refine w_pure want_none (y_eql rfl rfl rfl rfl) rfl ?_
        refine w_pure want_none (y_assign (v := .bool _) rfl rfl) rfl ?_
        refine w_nil ?_
        refine q_then (hK101 _ _ ?_)
        refine w_seq (fun K104 hK103 => ?_)
        refine w_seq (fun K106 hK105 => ?_)
        refine w_draw [] [(0, 0), (1, 0), (2, 0), (3, 0), (4, 0), (5, 0), (6, 0), (7, 0), (8, 0), (9, 0), (10, 1), (11, 1), (12, 2), (13, 0), (14, 0), (15, 0), (16, 0), (17, 0), (18, 2), (19, 0), (20, 0), (21, 0), (22, 0), (23, 0), (24, 0), (25, 0), (26, 2), (27, 0), (28, 0), (29, 0), (30, 0), (31, 0), (32, 0), (33, 0), (34, 0), (35, 0), (36, 2), (37, 0), (38, 0)] Try_mo (drawOK_of (by kernel_rfl)) hs100 (fun w107 hs108 => ?_)
        refine d_any rfl want_none rfl (fun _ => (y_move (v := .int _ _) rfl rfl)) ?_
        refine d_any rfl want_none rfl (fun _ => (y_neq rfl rfl rfl rfl)) ?_
        refine d_any rfl want_none rfl (fun _ => (y_move (v := .bool _) rfl rfl)) ?_
        refine d_split (fun h109 => ?_) (fun h109 => ?_)
        ·
         exfalso
         try simp only [Bool.not_eq_true', Bool.not_eq_false', decide_eq_true_eq, decide_eq_false_iff_not, Int.not_lt, Int.not_le] at h109
         rw [hTB.hands.1] at h109; simp at h109
        ·
         try simp only [Bool.not_eq_true', Bool.not_eq_false', decide_eq_true_eq, decide_eq_false_iff_not, Int.not_lt, Int.not_le] at h109
         refine d_any rfl (want_yes rfl rfl rfl) rfl (fun _ => (y_move (v := .int _ _) rfl rfl)) ?_
         refine d_any rfl (want_yes rfl rfl rfl) rfl (fun _ => (y_neq rfl rfl rfl rfl)) ?_
         refine d_any rfl want_none rfl (fun _ => (y_pickF (v := .bool _) rfl rfl rfl rfl)) ?_
         refine d_any rfl want_none rfl (fun _ => (y_move (v := .bool _) rfl rfl)) ?_
         refine d_split (fun h110 => ?_) (fun h110 => ?_)
         ·
          exfalso
          try simp only [Bool.not_eq_true', Bool.not_eq_false', decide_eq_true_eq, decide_eq_false_iff_not, Int.not_lt, Int.not_le] at h110
          rw [hTB.grade.1] at h110; simp at h110
         ·
          try simp only [Bool.not_eq_true', Bool.not_eq_false', decide_eq_true_eq, decide_eq_false_iff_not, Int.not_lt, Int.not_le] at h110
          refine d_any rfl (want_yes rfl rfl rfl) rfl (fun _ => (y_move (v := .slice _ _ _) rfl rfl)) ?_
          refine d_any rfl (want_yes rfl rfl rfl) rfl (fun _ => (y_move (v := .int _ _) rfl rfl)) ?_
          refine d_any rfl (want_yes rfl rfl rfl) rfl (fun _ => (y_indexS Try.underlying37 Try.sizeOf3 rfl rfl rfl rfl (i := k) rfl hkh)) ?_
          refine d_take rfl (want_yes rfl rfl rfl) rfl hs108 (fun _ hq => (y_load1 Try.isAgg3 hq.tail.tail.drop rfl rfl hh1)) ?_
          refine d_take rfl (want_yes rfl rfl rfl) rfl hs108 (fun _ hq => (y_loadN (vs := [_, _]) Try.isAgg34 Try.sizeOf34 hq rfl rfl (ats_own (i := 0) (vs := [_, _]) rfl rfl))) ?_
          refine d_eff rfl ?_
          refine w_call (want_yes rfl rfl rfl) Try.call42 rfl rfl rfl rfl (c42 _ _ _ hs108) ?_
          rintro _ w112 ⟨rfl, hs113⟩
          refine w_nil ?_
          refine qn ⟨hs113, ?_⟩
          refine d_any rfl (want_yes rfl rfl rfl) rfl (fun _ => (y_not rfl rfl)) ?_
          refine d_any rfl want_none rfl (fun _ => (y_pickF (v := .bool _) rfl rfl rfl rfl)) ?_
          refine d_any rfl want_none rfl (fun _ => (y_move (v := .bool _) rfl rfl)) ?_
          refine d_split (fun h114 => ?_) (fun h114 => ?_)
          ·
           exfalso
           try simp only [Bool.not_eq_true', Bool.not_eq_false', decide_eq_true_eq, decide_eq_false_iff_not, Int.not_lt, Int.not_le] at h114
           have hx := hTB.hands.2
           omega
          ·
           try simp only [Bool.not_eq_true', Bool.not_eq_false', decide_eq_true_eq, decide_eq_false_iff_not, Int.not_lt, Int.not_le] at h114
           refine d_any rfl (want_yes rfl rfl rfl) rfl (fun _ => (y_move (v := .slice _ _ _) rfl rfl)) ?_
           refine d_any rfl (want_yes rfl rfl rfl) rfl (fun _ => (y_move (v := .int _ _) rfl rfl)) ?_
           refine d_eff rfl ?_
           refine w_call (want_yes rfl rfl rfl) Try.call43 rfl rfl rfl rfl (c43 _ _ (gradeP (told l h) (k : Int)).1 (by omega) hqG.top.cons.cons _ hs113) ?_
           rintro _ w116 ⟨rfl, hs117⟩
           refine w_nil ?_
           refine qn ⟨hs117, ?_⟩
           refine d_any rfl (want_yes rfl rfl rfl) rfl (fun _ => (y_not rfl rfl)) ?_
           refine d_any rfl want_none rfl (fun _ => (y_pickF (v := .bool _) rfl rfl rfl rfl)) ?_
           refine d_any rfl want_none rfl (fun _ => (y_move (v := .bool _) rfl rfl)) ?_
           refine d_split (fun h118 => ?_) (fun h118 => ?_)
           ·
            exfalso
            try simp only [Bool.not_eq_true', Bool.not_eq_false', decide_eq_true_eq, decide_eq_false_iff_not, Int.not_lt, Int.not_le] at h118
            rw [hTB.grade.2] at h118; simp at h118
           ·
            try simp only [Bool.not_eq_true', Bool.not_eq_false', decide_eq_true_eq, decide_eq_false_iff_not, Int.not_lt, Int.not_le] at h118
            refine d_any rfl (want_yes rfl rfl rfl) rfl (fun _ => (y_move (v := .bool _) rfl rfl)) ?_
            refine d_any rfl (want_yes rfl rfl rfl) rfl (fun _ => (y_move (v := .bool _) rfl rfl)) ?_
            refine d_split (fun h119 => ?_) (fun h119 => ?_)
            ·
             try simp only [Bool.not_eq_true', Bool.not_eq_false', decide_eq_true_eq, decide_eq_false_iff_not, Int.not_lt, Int.not_le] at h119
             refine d_any rfl (want_yes rfl rfl rfl) rfl (fun _ => (y_move (v := .slice _ _ _) rfl rfl)) ?_
             refine d_any rfl (want_yes rfl rfl rfl) rfl (fun _ => (y_move (v := .int _ _) rfl rfl)) ?_
             refine d_eff rfl ?_
             refine w_call (want_yes rfl rfl rfl) Try.call43 rfl rfl rfl rfl (c43 _ _ (refusedP (told l h)).2.1 (by omega) hMZ.app.cons.cons _ hs117) ?_
             rintro _ w121 ⟨rfl, hs122⟩
             refine w_nil ?_
             refine qn ⟨hs122, ?_⟩
             refine d_any rfl (want_yes rfl rfl rfl) rfl (fun _ => (y_not rfl rfl)) ?_
             refine d_any rfl (want_yes rfl rfl rfl) rfl (fun _ => (y_pickT (v := .bool _) rfl rfl rfl rfl)) ?_
             refine d_any rfl want_none rfl (fun _ => (y_pickF (v := .bool _) rfl rfl rfl rfl)) ?_
             refine d_any rfl want_none rfl (fun _ => (y_move (v := .bool _) rfl rfl)) ?_
             refine d_split (fun h123 => ?_) (fun h123 => ?_)
             ·
              exfalso
              try simp only [Bool.not_eq_true', Bool.not_eq_false', decide_eq_true_eq, decide_eq_false_iff_not, Int.not_lt, Int.not_le] at h123
              rw [hTB.may (by assumption)] at h123; simp at h123
             ·
              try simp only [Bool.not_eq_true', Bool.not_eq_false', decide_eq_true_eq, decide_eq_false_iff_not, Int.not_lt, Int.not_le] at h123
              refine d_any rfl (want_yes rfl rfl rfl) rfl (fun _ => (y_move (v := .bool _) rfl rfl)) ?_
              refine d_any rfl (want_yes rfl rfl rfl) rfl (fun _ => (y_not rfl rfl)) ?_
              refine d_any rfl (want_yes rfl rfl rfl) rfl (fun _ => (y_move (v := .bool _) rfl rfl)) ?_
              refine d_split (fun h124 => ?_) (fun h124 => ?_)
              ·
               try simp only [Bool.not_eq_true', Bool.not_eq_false', decide_eq_true_eq, decide_eq_false_iff_not, Int.not_lt, Int.not_le] at h124
               refine d_any rfl (want_yes rfl rfl rfl) rfl (fun _ => (y_move (v := .slice _ _ _) rfl rfl)) ?_
               refine d_any rfl (want_yes rfl rfl rfl) rfl (fun _ => (y_move (v := .int _ _) rfl rfl)) ?_
               refine d_eff rfl ?_
               refine w_call (want_yes rfl rfl rfl) Try.call43 rfl rfl rfl rfl (c43 _ _ (refusedP (told l h)).1 (by omega) hRZ.app.cons.cons _ hs122) ?_
               rintro _ w126 ⟨rfl, hs127⟩
               refine w_nil ?_
               refine qn ⟨hs127, ?_⟩
               refine d_any rfl (want_yes rfl rfl rfl) rfl (fun _ => (y_pickT (v := .bool _) rfl rfl rfl rfl)) ?_
               refine d_any rfl want_none rfl (fun _ => (y_pickF (v := .bool _) rfl rfl rfl rfl)) ?_
               refine d_nil ?_
               refine q_then (hK105 _ _ ?_)
               refine w_cond rfl rfl (fun h128 => ?_) (fun h128 => ?_)
               ·
                exfalso
                try simp only [Bool.not_eq_true', Bool.not_eq_false', decide_eq_true_eq, decide_eq_false_iff_not, Int.not_lt, Int.not_le] at h128
                rw [hTB.sure (by assumption)] at h128; simp at h128
               ·
                try simp only [Bool.not_eq_true', Bool.not_eq_false', decide_eq_true_eq, decide_eq_false_iff_not, Int.not_lt, Int.not_le] at h128
                refine w_skip ?_
                refine q_then (hK103 _ _ ?_)
                refine w_seq (fun K130 hK129 => ?_)
                refine w_draw [14] [(0, 0), (1, 0), (2, 0), (3, 0), (4, 0), (5, 0), (6, 0), (7, 1), (8, 0), (9, 0), (10, 0), (11, 1), (12, 0), (13, 0), (14, 3)] Try_mo (drawOK_of (by kernel_rfl)) hs127 (fun w131 hs132 => ?_)
                refine d_any rfl want_none rfl (fun _ => (y_move (v := .slice _ _ _) rfl rfl)) ?_
                refine d_any rfl want_none rfl (fun _ => (y_move (v := .int _ _) rfl rfl)) ?_
                refine d_any rfl want_none rfl (fun _ => (yd_cast (z' := ((g : Nat) : Int)) hg (y_add rfl rfl rfl rfl (by omega) (by omega)))) ?_
                refine d_any rfl want_none rfl (fun _ => (y_move (v := .slice _ _ _) rfl rfl)) ?_
                refine d_any rfl want_none rfl (fun _ => (y_move (v := .int _ _) rfl rfl)) ?_
                refine d_any rfl want_none rfl (fun _ => (yd_cast (z' := ((g : Nat) : Int)) hg (y_add rfl rfl rfl rfl (by omega) (by omega)))) ?_
                refine d_any rfl want_none rfl (fun _ => (y_indexS Try.underlying37 Try.sizeOf3 rfl rfl rfl rfl (i := g) rfl (by omega))) ?_
                refine d_take rfl want_none rfl hs132 (fun _ hq => (y_load1 Try.isAgg3 hq rfl rfl (ats_ints (i := 1) (j := g) rfl (by first | omega | rfl | (simp only [sm_len, sc_len, List.length_map, List.length_set, List.length_append, List.length_take, List.length_drop, List.length_replicate, List.length_cons, List.length_nil] <;> omega))))) ?_
                refine d_any rfl want_none rfl (fun _ => (y_move (v := .slice _ _ _) rfl rfl)) ?_
                refine d_any rfl want_none rfl (fun _ => (y_move (v := .int _ _) rfl rfl)) ?_
                refine d_any rfl want_none rfl (fun _ => (y_indexS Try.underlying37 Try.sizeOf3 rfl rfl rfl rfl (i := k) rfl hkh)) ?_
                refine d_take rfl want_none rfl hs132 (fun _ hq => (y_load1 Try.isAgg3 hq.tail.tail.drop rfl rfl hh1)) ?_
                refine d_any rfl want_none rfl (fun _ => (y_add rfl rfl rfl rfl (by omega) (by omega))) ?_
                refine d_any rfl want_none rfl (fun _ => (y_indexS Try.underlying37 Try.sizeOf3 rfl rfl rfl rfl (i := g) rfl (by omega))) ?_
                refine d_late rfl ?_
                refine w_storeAtI (i := 1) (j := g) want_none Try.sizeOf3 rfl rfl rfl rfl hs132 rfl (by first | omega | rfl | (simp only [sm_len, sc_len, List.length_map, List.length_set, List.length_append, List.length_take, List.length_drop, List.length_replicate, List.length_cons, List.length_nil] <;> omega)) (fun w133 hs134 => ?_)
                refine w_nil ?_
                refine qn ?_
                refine d_nil ?_
                refine q_then (hK129 _ _ ?_)
                refine w_region ?_
                refine w_pure want_none (y_move (v := .int _ _) rfl rfl) rfl ?_
                refine w_pure want_none (y_move (v := .slice _ _ _) rfl rfl) rfl ?_
                refine w_pure want_none (y_move (v := .int _ _) rfl rfl) rfl ?_
                refine w_pure want_none (y_indexS Try.underlying37 Try.sizeOf3 rfl rfl rfl rfl (i := k) rfl hkh) rfl ?_
                refine w_pure want_none (y_load1 Try.isAgg3 hs134.tail.tail.drop rfl rfl hh1) rfl ?_
                refine w_pure want_none (y_add rfl rfl rfl rfl (by omega) (by omega)) rfl ?_
                refine w_pure want_none (y_assign (v := .int _ _) rfl rfl) rfl ?_
                refine w_nil ?_
                refine q_blk_normal ?_
                refine q_then (hK76 _ _ ?_)
                refine w_region ?_
                refine w_pure want_none (y_move (v := .int _ _) rfl rfl) rfl ?_
                refine w_pure want_none (y_add rfl rfl rfl rfl (by omega) (by omega)) rfl ?_
                refine w_pure want_none (y_assign (v := .int _ _) rfl rfl) rfl ?_
                refine w_nil ?_
                refine q_then (hN68 _ _ (Nx.intro (l.bunches.length - (k + 1)) (by omega) (by repeat (first | exact agree_mix | refine agree_upd rfl ?_ | refine agree_updL rfl ?_ _ | refine agree_mixin rfl ?_)) ?_))
                exact ⟨k + 1, iv2 (by rw [allSum, hag]) rfl, by omega, rfl, by rw [← sm_set hg hg2, hag]; exact kp_opq hs134.tail⟩
              ·
               try simp only [Bool.not_eq_true', Bool.not_eq_false', decide_eq_true_eq, decide_eq_false_iff_not, Int.not_lt, Int.not_le] at h124
               refine d_skip rfl rfl rfl rfl ?_
               refine d_skip rfl rfl rfl rfl ?_
               refine d_eff rfl ?_
               refine w_skipop rfl rfl rfl ?_
               refine w_nil ?_
               refine qn ⟨hs122, ?_⟩
               refine d_any rfl (want_yes rfl rfl rfl) rfl (fun _ => (y_pickF (v := _) rfl rfl rfl rfl)) ?_
               refine d_any rfl want_none rfl (fun _ => (y_pickF (v := .bool _) rfl rfl rfl rfl)) ?_
               refine d_nil ?_
               refine q_then (hK105 _ _ ?_)
               refine w_condF rfl rfl ?_
               refine w_skip ?_
               refine q_then (hK103 _ _ ?_)
               refine w_seq (fun K136 hK135 => ?_)
               refine w_draw [14] [(0, 0), (1, 0), (2, 0), (3, 0), (4, 0), (5, 0), (6, 0), (7, 1), (8, 0), (9, 0), (10, 0), (11, 1), (12, 0), (13, 0), (14, 3)] Try_mo (drawOK_of (by kernel_rfl)) hs122 (fun w137 hs138 => ?_)
               refine d_any rfl want_none rfl (fun _ => (y_move (v := .slice _ _ _) rfl rfl)) ?_
               refine d_any rfl want_none rfl (fun _ => (y_move (v := .int _ _) rfl rfl)) ?_
               refine d_any rfl want_none rfl (fun _ => (yd_cast (z' := ((g : Nat) : Int)) hg (y_add rfl rfl rfl rfl (by omega) (by omega)))) ?_
               refine d_any rfl want_none rfl (fun _ => (y_move (v := .slice _ _ _) rfl rfl)) ?_
               refine d_any rfl want_none rfl (fun _ => (y_move (v := .int _ _) rfl rfl)) ?_
               refine d_any rfl want_none rfl (fun _ => (yd_cast (z' := ((g : Nat) : Int)) hg (y_add rfl rfl rfl rfl (by omega) (by omega)))) ?_
               refine d_any rfl want_none rfl (fun _ => (y_indexS Try.underlying37 Try.sizeOf3 rfl rfl rfl rfl (i := g) rfl (by omega))) ?_
               refine d_take rfl want_none rfl hs138 (fun _ hq => (y_load1 Try.isAgg3 hq rfl rfl (ats_ints (i := 1) (j := g) rfl (by first | omega | rfl | (simp only [sm_len, sc_len, List.length_map, List.length_set, List.length_append, List.length_take, List.length_drop, List.length_replicate, List.length_cons, List.length_nil] <;> omega))))) ?_
               refine d_any rfl want_none rfl (fun _ => (y_move (v := .slice _ _ _) rfl rfl)) ?_
               refine d_any rfl want_none rfl (fun _ => (y_move (v := .int _ _) rfl rfl)) ?_
               refine d_any rfl want_none rfl (fun _ => (y_indexS Try.underlying37 Try.sizeOf3 rfl rfl rfl rfl (i := k) rfl hkh)) ?_
               refine d_take rfl want_none rfl hs138 (fun _ hq => (y_load1 Try.isAgg3 hq.tail.tail.drop rfl rfl hh1)) ?_
               refine d_any rfl want_none rfl (fun _ => (y_add rfl rfl rfl rfl (by omega) (by omega))) ?_
               refine d_any rfl want_none rfl (fun _ => (y_indexS Try.underlying37 Try.sizeOf3 rfl rfl rfl rfl (i := g) rfl (by omega))) ?_
               refine d_late rfl ?_
               refine w_storeAtI (i := 1) (j := g) want_none Try.sizeOf3 rfl rfl rfl rfl hs138 rfl (by first | omega | rfl | (simp only [sm_len, sc_len, List.length_map, List.length_set, List.length_append, List.length_take, List.length_drop, List.length_replicate, List.length_cons, List.length_nil] <;> omega)) (fun w139 hs140 => ?_)
               refine w_nil ?_
               refine qn ?_
               refine d_nil ?_
               refine q_then (hK135 _ _ ?_)
               refine w_region ?_
               refine w_pure want_none (y_move (v := .int _ _) rfl rfl) rfl ?_
               refine w_pure want_none (y_move (v := .slice _ _ _) rfl rfl) rfl ?_
               refine w_pure want_none (y_move (v := .int _ _) rfl rfl) rfl ?_
               refine w_pure want_none (y_indexS Try.underlying37 Try.sizeOf3 rfl rfl rfl rfl (i := k) rfl hkh) rfl ?_
               refine w_pure want_none (y_load1 Try.isAgg3 hs140.tail.tail.drop rfl rfl hh1) rfl ?_
               refine w_pure want_none (y_add rfl rfl rfl rfl (by omega) (by omega)) rfl ?_
               refine w_pure want_none (y_assign (v := .int _ _) rfl rfl) rfl ?_
               refine w_nil ?_
               refine q_blk_normal ?_
               refine q_then (hK76 _ _ ?_)
               refine w_region ?_
               refine w_pure want_none (y_move (v := .int _ _) rfl rfl) rfl ?_
               refine w_pure want_none (y_add rfl rfl rfl rfl (by omega) (by omega)) rfl ?_
               refine w_pure want_none (y_assign (v := .int _ _) rfl rfl) rfl ?_
               refine w_nil ?_
               refine q_then (hN68 _ _ (Nx.intro (l.bunches.length - (k + 1)) (by omega) (by repeat (first | exact agree_mix | refine agree_upd rfl ?_ | refine agree_updL rfl ?_ _ | refine agree_mixin rfl ?_)) ?_))
               exact ⟨k + 1, iv2 (by rw [allSum, hag]) rfl, by omega, rfl, by rw [← sm_set hg hg2, hag]; exact kp_opq hs140.tail⟩
            ·
             try simp only [Bool.not_eq_true', Bool.not_eq_false', decide_eq_true_eq, decide_eq_false_iff_not, Int.not_lt, Int.not_le] at h119
             refine d_skip rfl rfl rfl rfl ?_
             refine d_skip rfl rfl rfl rfl ?_
             refine d_eff rfl ?_
             refine w_skipop rfl rfl rfl ?_
             refine w_nil ?_
             refine qn ⟨hs117, ?_⟩
             refine d_skip rfl rfl rfl rfl ?_
             refine d_any rfl (want_yes rfl rfl rfl) rfl (fun _ => (y_pickF (v := _) rfl rfl rfl rfl)) ?_
             refine d_any rfl want_none rfl (fun _ => (y_pickF (v := .bool _) rfl rfl rfl rfl)) ?_
             refine d_any rfl want_none rfl (fun _ => (y_move (v := .bool _) rfl rfl)) ?_
             refine d_any rfl (want_yes rfl rfl rfl) rfl (fun _ => (y_move (v := .bool _) rfl rfl)) ?_
             refine d_any rfl (want_yes rfl rfl rfl) rfl (fun _ => (y_not rfl rfl)) ?_
             refine d_any rfl (want_yes rfl rfl rfl) rfl (fun _ => (y_move (v := .bool _) rfl rfl)) ?_
             refine d_split (fun h141 => ?_) (fun h141 => ?_)
             ·
              try simp only [Bool.not_eq_true', Bool.not_eq_false', decide_eq_true_eq, decide_eq_false_iff_not, Int.not_lt, Int.not_le] at h141
              refine d_any rfl (want_yes rfl rfl rfl) rfl (fun _ => (y_move (v := .slice _ _ _) rfl rfl)) ?_
              refine d_any rfl (want_yes rfl rfl rfl) rfl (fun _ => (y_move (v := .int _ _) rfl rfl)) ?_
              refine d_eff rfl ?_
              refine w_call (want_yes rfl rfl rfl) Try.call43 rfl rfl rfl rfl (c43 _ _ (refusedP (told l h)).1 (by omega) hRZ.app.cons.cons _ hs117) ?_
              rintro _ w143 ⟨rfl, hs144⟩
              refine w_nil ?_
              refine qn ⟨hs144, ?_⟩
              refine d_any rfl (want_yes rfl rfl rfl) rfl (fun _ => (y_pickT (v := .bool _) rfl rfl rfl rfl)) ?_
              refine d_any rfl want_none rfl (fun _ => (y_pickF (v := .bool _) rfl rfl rfl rfl)) ?_
              refine d_nil ?_
              refine q_then (hK105 _ _ ?_)
              refine w_cond rfl rfl (fun h145 => ?_) (fun h145 => ?_)
              ·
               exfalso
               try simp only [Bool.not_eq_true', Bool.not_eq_false', decide_eq_true_eq, decide_eq_false_iff_not, Int.not_lt, Int.not_le] at h145
               rw [hTB.sure (by assumption)] at h145; simp at h145
              ·
               try simp only [Bool.not_eq_true', Bool.not_eq_false', decide_eq_true_eq, decide_eq_false_iff_not, Int.not_lt, Int.not_le] at h145
               refine w_skip ?_
               refine q_then (hK103 _ _ ?_)
               refine w_seq (fun K147 hK146 => ?_)
               refine w_draw [14] [(0, 0), (1, 0), (2, 0), (3, 0), (4, 0), (5, 0), (6, 0), (7, 1), (8, 0), (9, 0), (10, 0), (11, 1), (12, 0), (13, 0), (14, 3)] Try_mo (drawOK_of (by kernel_rfl)) hs144 (fun w148 hs149 => ?_)
               refine d_any rfl want_none rfl (fun _ => (y_move (v := .slice _ _ _) rfl rfl)) ?_
               refine d_any rfl want_none rfl (fun _ => (y_move (v := .int _ _) rfl rfl)) ?_
               refine d_any rfl want_none rfl (fun _ => (yd_cast (z' := ((g : Nat) : Int)) hg (y_add rfl rfl rfl rfl (by omega) (by omega)))) ?_
               refine d_any rfl want_none rfl (fun _ => (y_move (v := .slice _ _ _) rfl rfl)) ?_
               refine d_any rfl want_none rfl (fun _ => (y_move (v := .int _ _) rfl rfl)) ?_
               refine d_any rfl want_none rfl (fun _ => (yd_cast (z' := ((g : Nat) : Int)) hg (y_add rfl rfl rfl rfl (by omega) (by omega)))) ?_
               refine d_any rfl want_none rfl (fun _ => (y_indexS Try.underlying37 Try.sizeOf3 rfl rfl rfl rfl (i := g) rfl (by omega))) ?_
               refine d_take rfl want_none rfl hs149 (fun _ hq => (y_load1 Try.isAgg3 hq rfl rfl (ats_ints (i := 1) (j := g) rfl (by first | omega | rfl | (simp only [sm_len, sc_len, List.length_map, List.length_set, List.length_append, List.length_take, List.length_drop, List.length_replicate, List.length_cons, List.length_nil] <;> omega))))) ?_
               refine d_any rfl want_none rfl (fun _ => (y_move (v := .slice _ _ _) rfl rfl)) ?_
               refine d_any rfl want_none rfl (fun _ => (y_move (v := .int _ _) rfl rfl)) ?_
               refine d_any rfl want_none rfl (fun _ => (y_indexS Try.underlying37 Try.sizeOf3 rfl rfl rfl rfl (i := k) rfl hkh)) ?_
               refine d_take rfl want_none rfl hs149 (fun _ hq => (y_load1 Try.isAgg3 hq.tail.tail.drop rfl rfl hh1)) ?_
               refine d_any rfl want_none rfl (fun _ => (y_add rfl rfl rfl rfl (by omega) (by omega))) ?_
               refine d_any rfl want_none rfl (fun _ => (y_indexS Try.underlying37 Try.sizeOf3 rfl rfl rfl rfl (i := g) rfl (by omega))) ?_
               refine d_late rfl ?_
               refine w_storeAtI (i := 1) (j := g) want_none Try.sizeOf3 rfl rfl rfl rfl hs149 rfl (by first | omega | rfl | (simp only [sm_len, sc_len, List.length_map, List.length_set, List.length_append, List.length_take, List.length_drop, List.length_replicate, List.length_cons, List.length_nil] <;> omega)) (fun w150 hs151 => ?_)
               refine w_nil ?_
               refine qn ?_
               refine d_nil ?_
               refine q_then (hK146 _ _ ?_)
               refine w_region ?_
               refine w_pure want_none (y_move (v := .int _ _) rfl rfl) rfl ?_
               refine w_pure want_none (y_move (v := .slice _ _ _) rfl rfl) rfl ?_
               refine w_pure want_none (y_move (v := .int _ _) rfl rfl) rfl ?_
               refine w_pure want_none (y_indexS Try.underlying37 Try.sizeOf3 rfl rfl rfl rfl (i := k) rfl hkh) rfl ?_
               refine w_pure want_none (y_load1 Try.isAgg3 hs151.tail.tail.drop rfl rfl hh1) rfl ?_
               refine w_pure want_none (y_add rfl rfl rfl rfl (by omega) (by omega)) rfl ?_
               refine w_pure want_none (y_assign (v := .int _ _) rfl rfl) rfl ?_
               refine w_nil ?_
               refine q_blk_normal ?_
               refine q_then (hK76 _ _ ?_)
               refine w_region ?_
               refine w_pure want_none (y_move (v := .int _ _) rfl rfl) rfl ?_
               refine w_pure want_none (y_add rfl rfl rfl rfl (by omega) (by omega)) rfl ?_
               refine w_pure want_none (y_assign (v := .int _ _) rfl rfl) rfl ?_
               refine w_nil ?_
               refine q_then (hN68 _ _ (Nx.intro (l.bunches.length - (k + 1)) (by omega) (by repeat (first | exact agree_mix | refine agree_upd rfl ?_ | refine agree_updL rfl ?_ _ | refine agree_mixin rfl ?_)) ?_))
               exact ⟨k + 1, iv2 (by rw [allSum, hag]) rfl, by omega, rfl, by rw [← sm_set hg hg2, hag]; exact kp_opq hs151.tail⟩
             ·
              try simp only [Bool.not_eq_true', Bool.not_eq_false', decide_eq_true_eq, decide_eq_false_iff_not, Int.not_lt, Int.not_le] at h141
              refine d_skip rfl rfl rfl rfl ?_
              refine d_skip rfl rfl rfl rfl ?_
              refine d_eff rfl ?_
              refine w_skipop rfl rfl rfl ?_
              refine w_nil ?_
              refine qn ⟨hs117, ?_⟩
              refine d_any rfl (want_yes rfl rfl rfl) rfl (fun _ => (y_pickF (v := _) rfl rfl rfl rfl)) ?_
              refine d_any rfl want_none rfl (fun _ => (y_pickF (v := .bool _) rfl rfl rfl rfl)) ?_
              refine d_nil ?_
              refine q_then (hK105 _ _ ?_)
              refine w_condF rfl rfl ?_
              refine w_skip ?_
              refine q_then (hK103 _ _ ?_)
              refine w_seq (fun K153 hK152 => ?_)
              refine w_draw [14] [(0, 0), (1, 0), (2, 0), (3, 0), (4, 0), (5, 0), (6, 0), (7, 1), (8, 0), (9, 0), (10, 0), (11, 1), (12, 0), (13, 0), (14, 3)] Try_mo (drawOK_of (by kernel_rfl)) hs117 (fun w154 hs155 => ?_)
              refine d_any rfl want_none rfl (fun _ => (y_move (v := .slice _ _ _) rfl rfl)) ?_
              refine d_any rfl want_none rfl (fun _ => (y_move (v := .int _ _) rfl rfl)) ?_
              refine d_any rfl want_none rfl (fun _ => (yd_cast (z' := ((g : Nat) : Int)) hg (y_add rfl rfl rfl rfl (by omega) (by omega)))) ?_
              refine d_any rfl want_none rfl (fun _ => (y_move (v := .slice _ _ _) rfl rfl)) ?_
              refine d_any rfl want_none rfl (fun _ => (y_move (v := .int _ _) rfl rfl)) ?_
              refine d_any rfl want_none rfl (fun _ => (yd_cast (z' := ((g : Nat) : Int)) hg (y_add rfl rfl rfl rfl (by omega) (by omega)))) ?_
              refine d_any rfl want_none rfl (fun _ => (y_indexS Try.underlying37 Try.sizeOf3 rfl rfl rfl rfl (i := g) rfl (by omega))) ?_
              refine d_take rfl want_none rfl hs155 (fun _ hq => (y_load1 Try.isAgg3 hq rfl rfl (ats_ints (i := 1) (j := g) rfl (by first | omega | rfl | (simp only [sm_len, sc_len, List.length_map, List.length_set, List.length_append, List.length_take, List.length_drop, List.length_replicate, List.length_cons, List.length_nil] <;> omega))))) ?_
              refine d_any rfl want_none rfl (fun _ => (y_move (v := .slice _ _ _) rfl rfl)) ?_
              refine d_any rfl want_none rfl (fun _ => (y_move (v := .int _ _) rfl rfl)) ?_
              refine d_any rfl want_none rfl (fun _ => (y_indexS Try.underlying37 Try.sizeOf3 rfl rfl rfl rfl (i := k) rfl hkh)) ?_
              refine d_take rfl want_none rfl hs155 (fun _ hq => (y_load1 Try.isAgg3 hq.tail.tail.drop rfl rfl hh1)) ?_
              refine d_any rfl want_none rfl (fun _ => (y_add rfl rfl rfl rfl (by omega) (by omega))) ?_
              refine d_any rfl want_none rfl (fun _ => (y_indexS Try.underlying37 Try.sizeOf3 rfl rfl rfl rfl (i := g) rfl (by omega))) ?_
              refine d_late rfl ?_
              refine w_storeAtI (i := 1) (j := g) want_none Try.sizeOf3 rfl rfl rfl rfl hs155 rfl (by first | omega | rfl | (simp only [sm_len, sc_len, List.length_map, List.length_set, List.length_append, List.length_take, List.length_drop, List.length_replicate, List.length_cons, List.length_nil] <;> omega)) (fun w156 hs157 => ?_)
              refine w_nil ?_
              refine qn ?_
              refine d_nil ?_
              refine q_then (hK152 _ _ ?_)
              refine w_region ?_
              refine w_pure want_none (y_move (v := .int _ _) rfl rfl) rfl ?_
              refine w_pure want_none (y_move (v := .slice _ _ _) rfl rfl) rfl ?_
              refine w_pure want_none (y_move (v := .int _ _) rfl rfl) rfl ?_
              refine w_pure want_none (y_indexS Try.underlying37 Try.sizeOf3 rfl rfl rfl rfl (i := k) rfl hkh) rfl ?_
              refine w_pure want_none (y_load1 Try.isAgg3 hs157.tail.tail.drop rfl rfl hh1) rfl ?_
              refine w_pure want_none (y_add rfl rfl rfl rfl (by omega) (by omega)) rfl ?_
              refine w_pure want_none (y_assign (v := .int _ _) rfl rfl) rfl ?_
              refine w_nil ?_
              refine q_blk_normal ?_
              refine q_then (hK76 _ _ ?_)
              refine w_region ?_
              refine w_pure want_none (y_move (v := .int _ _) rfl rfl) rfl ?_
              refine w_pure want_none (y_add rfl rfl rfl rfl (by omega) (by omega)) rfl ?_
              refine w_pure want_none (y_assign (v := .int _ _) rfl rfl) rfl ?_
              refine w_nil ?_
              refine q_then (hN68 _ _ (Nx.intro (l.bunches.length - (k + 1)) (by omega) (by repeat (first | exact agree_mix | refine agree_upd rfl ?_ | refine agree_updL rfl ?_ _ | refine agree_mixin rfl ?_)) ?_))
              exact ⟨k + 1, iv2 (by rw [allSum, hag]) rfl, by omega, rfl, by rw [← sm_set hg hg2, hag]; exact kp_opq hs157.tail⟩
       ·
        try simp only [Bool.not_eq_true', Bool.not_eq_false', decide_eq_true_eq, decide_eq_false_iff_not, Int.not_lt, Int.not_le] at h75
        refine w_exit ?_
        refine q_then_exit ?_
        refine q_then_exit ?_
        refine q_blk_this ?_
        refine q_then (hK64 _ _ ?_)
        refine w_seq (fun K159 hK158 => ?_)
        refine w_seq (fun K161 hK160 => ?_)
        have hkn : k = l.bunches.length := by omega
        subst hkn
        refine w_region ?_
        refine w_pure want_none (y_assign (v := _) rfl rfl) rfl ?_
        refine w_nil ?_
        refine q_then (hK160 _ _ ?_)
        refine w_block ?_
        refine w_loop [6, 19, 27, 28, 29, 169, 170, 171, 172, 173, 174, 175, 176, 177, 178, 179, 180, 181, 182, 183, 184, 185, 186, 187, 188, 189, 190, 191, 192, 193, 194, 195, 196, 197, 198, 199, 200] [19, 27] (fun kk vs w => ∃ (g : Nat), vs = [.int .i64 (allSum h l.bunches.length - gradeSums l h (scOf l y) l.bunches.length g), .int .i64 g] ∧ g ≤ l.grades.length ∧ kk = l.grades.length - g ∧ St w0 w ((b59, blk 3 (iv (smTo l h (scOf l y) l.bunches.length))) :: Z)) (l.grades.length) ?_ ?_
        ·
         exact ⟨0, iv2 (by simp [gradeSums]) rfl, by omega, by omega, hs⟩
        ·
         intro k vs μ w164 hI K163 hN162
         obtain ⟨g, rfl, hga, rfl, hs⟩ := hI
         refine w_seq (fun K166 hK165 => ?_)
         refine w_seq (fun K168 hK167 => ?_)
         refine w_region ?_
         refine w_pure want_none (y_move (v := .int _ _) rfl rfl) rfl ?_
         refine w_pure want_none (y_fieldAddr (o := 0) (i := 0) Try.underlying26 rfl Try.sizeOf22 rfl rfl rfl) rfl ?_
         refine w_pure want_none (y_load1 Try.isAgg22 hs.tail rfl rfl (show Ats _ _ _ _ [_] from Ats.part hb10 0 1)) rfl ?_
         refine w_pure want_none (y_lenS Try.underlying22 rfl rfl) rfl ?_
         refine w_pure want_none (y_lss rfl rfl rfl rfl) rfl ?_
         refine w_nil ?_
         refine q_then (hK167 _ _ ?_)
         refine w_cond rfl rfl (fun h169 => ?_) (fun h169 => ?_)
         ·
          try simp only [Bool.not_eq_true', Bool.not_eq_false', decide_eq_true_eq, decide_eq_false_iff_not, Int.not_lt, Int.not_le] at h169
          refine w_skip ?_
          refine q_then (hK165 _ _ ?_)
          refine w_seq (fun K171 hK170 => ?_)
          refine w_block ?_
          refine w_seq (fun K173 hK172 => ?_)
          have hg3 : g < l.grades.length := by omega
          have hT := true_total hck hf (sc := scOf l y) (fun b hb => sc_in hok hb) hg3
          have hsg := sm_get (l := l) (h := h) (sc := scOf l y) (k := l.bunches.length) (show g + 1 < l.grades.length + 1 by omega)
          rw [show (((g + 1 : Nat) : Int) - 1) = g by omega] at hsg
          have hos := of_sum_in (sc := scOf l y) hh12 (g : Int) _ (Nat.le_refl _)
          have hgs := grade_sum_le (sc := scOf l y) hok hh12 g
          have hal := all_sum_in hh12 _ (Nat.le_refl _)
          refine w_region ?_
          refine w_pure want_none (y_loadN (vs := [_, _, _]) Try.isAgg26 Try.sizeOf26 hs.tail rfl rfl hb10) rfl ?_
          refine w_pure want_none (y_move (v := .int _ _) rfl rfl) rfl ?_
          refine w_call want_none Try.call26 rfl rfl rfl rfl (c26 (told l h) _ hmZ.cons (g : Int) hs) ?_
          rintro _ w175 ⟨rfl, hs176⟩
          refine w_pure want_none (y_move (v := .tuple _) rfl rfl) rfl ?_
          refine w_pure want_none (y_extract (v := .agg _) rfl rfl rfl) rfl ?_
          refine w_pure want_none (y_extract (v := .int _ _) rfl rfl rfl) rfl ?_
          refine w_alloc (cs := [_, _]) want_none Try.zeroValue34 rfl hs176 (fun b177 w178 hs179 => ?_)
          refine w_store (i := 0) (v := .agg #[.int _ _, .int _ _]) (vs := [_, _]) want_none Try.sizeOf34 rfl rfl rfl rfl rfl (by simp [Value.oneCell']) hs179 rfl (Nat.le_of_ble_eq_true rfl) (fun w180 hs181 => ?_)
          refine w_pure want_none (y_assign (v := .int _ _) rfl rfl) rfl ?_
          refine w_nil ?_
          refine q_then (hK172 _ _ ?_)
          refine w_seq (fun K183 hK182 => ?_)
          refine w_seq (fun K185 hK184 => ?_)
          refine w_draw [] [(0, 0), (1, 0), (2, 0), (3, 0), (4, 0), (5, 0), (6, 0), (7, 1), (8, 1), (9, 2), (10, 0), (11, 0)] Try_mo (drawOK_of (by kernel_rfl)) hs181 (fun w186 hs187 => ?_)
          refine d_any rfl want_none rfl (fun _ => (y_move (v := .int _ _) rfl rfl)) ?_
          refine d_any rfl want_none rfl (fun _ => (y_neq rfl rfl rfl rfl)) ?_
          refine d_any rfl want_none rfl (fun _ => (y_move (v := .bool _) rfl rfl)) ?_
          refine d_split (fun h188 => ?_) (fun h188 => ?_)
          ·
           exfalso
           try simp only [Bool.not_eq_true', Bool.not_eq_false', decide_eq_true_eq, decide_eq_false_iff_not, Int.not_lt, Int.not_le] at h188
           rw [hT.1] at h188; simp at h188
          ·
           try simp only [Bool.not_eq_true', Bool.not_eq_false', decide_eq_true_eq, decide_eq_false_iff_not, Int.not_lt, Int.not_le] at h188
           refine d_any rfl (want_yes rfl rfl rfl) rfl (fun _ => (y_move (v := .slice _ _ _) rfl rfl)) ?_
           refine d_any rfl (want_yes rfl rfl rfl) rfl (fun _ => (y_move (v := .int _ _) rfl rfl)) ?_
           refine d_any rfl (want_yes rfl rfl rfl) rfl (fun _ => (yd_cast (z' := ((g + 1 : Nat) : Int)) (by omega) (y_add rfl rfl rfl rfl (by omega) (by omega)))) ?_
           refine d_any rfl (want_yes rfl rfl rfl) rfl (fun _ => (y_indexS Try.underlying37 Try.sizeOf3 rfl rfl rfl rfl (i := (g + 1)) rfl (by omega))) ?_
           refine d_take rfl (want_yes rfl rfl rfl) rfl hs187 (fun _ hq => (y_load1 Try.isAgg3 hq rfl rfl (ats_ints (i := 1) (j := (g + 1)) rfl (by first | omega | rfl | (simp only [sm_len, sc_len, List.length_map, List.length_set, List.length_append, List.length_take, List.length_drop, List.length_replicate, List.length_cons, List.length_nil] <;> omega))))) ?_
           refine d_take rfl (want_yes rfl rfl rfl) rfl hs187 (fun _ hq => (y_loadN (vs := [_, _]) Try.isAgg34 Try.sizeOf34 hq rfl rfl (ats_own (i := 0) (vs := [_, _]) rfl rfl))) ?_
           refine d_eff rfl ?_
           refine w_call (want_yes rfl rfl rfl) Try.call42 rfl rfl rfl rfl (c42 _ _ _ hs187) ?_
           rintro _ w190 ⟨rfl, hs191⟩
           refine w_nil ?_
           refine qn ⟨hs191, ?_⟩
           refine d_any rfl (want_yes rfl rfl rfl) rfl (fun _ => (y_not rfl rfl)) ?_
           refine d_any rfl want_none rfl (fun _ => (y_pickF (v := .bool _) rfl rfl rfl rfl)) ?_
           refine d_nil ?_
           refine q_then (hK184 _ _ ?_)
           refine w_cond rfl rfl (fun h192 => ?_) (fun h192 => ?_)
           ·
            exfalso
            try simp only [Bool.not_eq_true', Bool.not_eq_false', decide_eq_true_eq, decide_eq_false_iff_not, Int.not_lt, Int.not_le] at h192
            have hx := hT.2
            omega
           ·
            try simp only [Bool.not_eq_true', Bool.not_eq_false', decide_eq_true_eq, decide_eq_false_iff_not, Int.not_lt, Int.not_le] at h192
            refine w_skip ?_
            refine q_then (hK182 _ _ ?_)
            refine w_region ?_
            refine w_pure want_none (y_move (v := .int _ _) rfl rfl) rfl ?_
            refine w_pure want_none (y_move (v := .slice _ _ _) rfl rfl) rfl ?_
            refine w_pure want_none (y_move (v := .int _ _) rfl rfl) rfl ?_
            refine w_pure want_none (yd_cast (z' := ((g + 1 : Nat) : Int)) (by omega) (y_add rfl rfl rfl rfl (by omega) (by omega))) rfl ?_
            refine w_pure want_none (y_indexS Try.underlying37 Try.sizeOf3 rfl rfl rfl rfl (i := (g + 1)) rfl (by omega)) rfl ?_
            refine w_pure want_none (y_load1 Try.isAgg3 hs191 rfl rfl (ats_ints (i := 1) (j := (g + 1)) rfl (by first | omega | rfl | (simp only [sm_len, sc_len, List.length_map, List.length_set, List.length_append, List.length_take, List.length_drop, List.length_replicate, List.length_cons, List.length_nil] <;> omega)))) rfl ?_
            refine w_pure want_none (y_sub rfl rfl rfl rfl (by omega) (by omega)) rfl ?_
            refine w_pure want_none (y_assign (v := .int _ _) rfl rfl) rfl ?_
            refine w_nil ?_
            refine q_blk_normal ?_
            refine q_then (hK170 _ _ ?_)
            refine w_region ?_
            refine w_pure want_none (y_move (v := .int _ _) rfl rfl) rfl ?_
            refine w_pure want_none (y_add rfl rfl rfl rfl (by omega) (by omega)) rfl ?_
            refine w_pure want_none (y_assign (v := .int _ _) rfl rfl) rfl ?_
            refine w_nil ?_
            refine q_then (hN162 _ _ (Nx.intro (l.grades.length - (g + 1)) (by omega) (by repeat (first | exact agree_mix | refine agree_upd rfl ?_ | refine agree_updL rfl ?_ _ | refine agree_mixin rfl ?_)) ?_))
            exact ⟨g + 1, iv2 (by simp only [gradeSums]; omega) rfl, by omega, rfl, hs191.tail⟩
         ·
          try simp only [Bool.not_eq_true', Bool.not_eq_false', decide_eq_true_eq, decide_eq_false_iff_not, Int.not_lt, Int.not_le] at h169
          refine w_exit ?_
          refine q_then_exit ?_
          refine q_then_exit ?_
          refine q_blk_this ?_
          refine q_then (hK158 _ _ ?_)
          refine w_seq (fun K194 hK193 => ?_)
          have hgn : g = l.grades.length := by omega
          subst hgn
          have hsa := sum_all l h (scOf l y) l.bunches.length
          have hs0 := sm_get (l := l) (h := h) (sc := scOf l y) (k := l.bunches.length) (show 0 < l.grades.length + 1 by omega)
          rw [show (((0 : Nat) : Int) - 1) = -1 from rfl] at hs0
          refine w_region ?_
          refine w_pure want_none (y_move (v := .int _ _) rfl rfl) rfl ?_
          refine w_pure want_none (y_move (v := .slice _ _ _) rfl rfl) rfl ?_
          refine w_pure want_none (y_indexS Try.underlying37 Try.sizeOf3 rfl rfl rfl rfl (i := 0) rfl (by omega)) rfl ?_
          refine w_pure want_none (y_load1 Try.isAgg3 hs rfl rfl (ats_ints (i := 0) (j := 0) rfl (by first | omega | rfl | (simp only [sm_len, sc_len, List.length_map, List.length_set, List.length_append, List.length_take, List.length_drop, List.length_replicate, List.length_cons, List.length_nil] <;> omega)))) rfl ?_
          refine w_pure want_none (y_eql rfl rfl rfl rfl) rfl ?_
          refine w_pure want_none (y_move (v := .bool _) rfl rfl) rfl ?_
          refine w_split (fun h195 => ?_) (fun h195 => ?_)
          ·
           try simp only [Bool.not_eq_true', Bool.not_eq_false', decide_eq_true_eq, decide_eq_false_iff_not, Int.not_lt, Int.not_le] at h195
           refine w_call (want_yes rfl rfl rfl) Try.call20 rfl rfl rfl rfl (c20 hs) ?_
           rintro _ w197 ⟨rfl, hs198⟩
           refine w_pure want_none (y_pickT (v := .bool _) rfl rfl rfl rfl) rfl ?_
           refine w_pure want_none (y_assign (v := .bool _) rfl rfl) rfl ?_
           refine w_nil ?_
           refine q_then (hK193 _ _ ?_)
           refine w_ret ?_
           refine q_ret (l := [.tmp 6]) (vs := [_]) rfl ⟨⟨rfl, show _ = (.bool _ : Value) from rfl⟩, trivial⟩ ?_
           exact ⟨rfl, (St.cast hZ hs198.tail).drop.drop.drop.tail.drop.tail⟩
          ·
           exfalso
           try simp only [Bool.not_eq_true', Bool.not_eq_false', decide_eq_true_eq, decide_eq_false_iff_not, Int.not_lt, Int.not_le] at h195
           omega

end Go.Proofs
