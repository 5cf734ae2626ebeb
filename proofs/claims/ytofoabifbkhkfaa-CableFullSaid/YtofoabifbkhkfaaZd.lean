/- Walks of this seat, printed by gen.py over the engine: what each function returns, in whatever world. No conditions but those of each contract. -/
import Derived.Test.YtofoabifbkhkfaaZc
import Derived.Test.YtofoabifbkhkfaaCSpec14
set_option linter.unusedVariables false
set_option linter.unusedSimpArgs false
set_option maxRecDepth 20000
namespace Go.Proofs
open Go.Rt
attribute [local irreducible] WL WC Con Yd At Ats Sl Agree DW

theorem c8 {w0 w : World} {F : List (Nat × Obj)} (p : Port) (a : Option Addr) (c : Nat) (hl3 : p.farms.length ≤ 9223372036854775807) (hc : p.farms.length ≤ c) (ha : Sl w0 F a 6 (rows p.farms)) (hnm : ∀ f ∈ p.farms, f.name.size ≤ 9223372036854775807) (ay : Option Addr) (cy : Nat) (y : List Int) (hyl : y.length ≤ 9223372036854775807) (hys : Sl w0 F ay 1 (y.map fun n => [Value.int .u8 n])) (hyr : ∀ z ∈ y, 0 ≤ z ∧ z ≤ 255) (d : Int) (hd : 0 ≤ d ∧ d ≤ 255) (ax : Option Addr) (cx : Nat) (x : List Int) (hxl : x.length ≤ 9223372036854775807) (hxs : Sl w0 F ax 1 (x.map fun n => [Value.int .u8 n])) (hxr : ∀ z ∈ x, 0 ≤ z ∧ z ≤ 255) (hs : St w0 w F) :
  Con Try.prog 8 [.agg (p.cells a c).toArray, .slice ay y.length cy, .agg #[.int .u8 d, .slice ax x.length cx]] w fun v w' => v = .bool true ∧ St w0 w' F := by
  refine con_of_wc (n := 170) Try.func8 rfl rfl (Nat.le_of_ble_eq_true rfl) ?_
  refine w_seq (fun K2 hK1 => ?_)
  refine w_region ?_
  refine w_box (v := .agg #[.int _ _, .int _ _, .int _ _, .slice _ _ _]) (cs := [_, _, _, _]) want_none rfl rfl rfl hs (fun b3 w4 hs5 => ?_)
  refine w_box (v := .agg #[.int _ _, .slice _ _ _]) (cs := [_, _]) want_none rfl rfl rfl hs5 (fun b6 w7 hs8 => ?_)
  refine w_pure want_none (y_assign (v := _) rfl rfl) rfl ?_
  refine w_nil ?_
  refine q_then (hK1 _ _ ?_)
  refine w_seq (fun K10 hK9 => ?_)
  refine w_seq (fun K12 hK11 => ?_)
  have hbx3 : Ats w0 ((b3, blk 26 (p.cells a c)) :: F) b3 0 (p.cells a c) := ats_own (i := 0) (vs := (p.cells a c)) rfl rfl
  have hbx5 : Ats w0 ((b6, blk 48 [.int .u8 d, .slice ax x.length cx]) :: (b3, blk 26 (p.cells a c)) :: F) b6 0 [.int .u8 d, .slice ax x.length cx] := ats_own (i := 0) (vs := [.int .u8 d, .slice ax x.length cx]) rfl rfl
  refine w_region ?_
  refine w_pure want_none (y_loadN (vs := [_, _, _, _]) Try.isAgg26 Try.sizeOf26 hs8.tail rfl rfl hbx3) rfl ?_
  refine w_call want_none Try.call37 rfl rfl rfl rfl (c37 p _ _ (by omega) (by omega) ha.cons.cons hnm hs8) ?_
  rintro _ w14 ⟨rfl, hs15⟩
  refine w_pure want_none (y_not rfl rfl) rfl ?_
  refine w_nil ?_
  refine q_then (hK11 _ _ ?_)
  refine w_cond rfl rfl (fun h16 => ?_) (fun h16 => ?_)
  ·
    try simp only [Bool.not_eq_true', Bool.not_eq_false', decide_eq_true_eq, decide_eq_false_iff_not, Int.not_lt, Int.not_le] at h16
    refine w_seq (fun K18 hK17 => ?_)
    refine w_region ?_
    refine w_pure want_none (y_loadN (vs := [_, _, _, _]) Try.isAgg26 Try.sizeOf26 hs15.tail rfl rfl hbx3) rfl ?_
    refine w_call want_none Try.call26 rfl rfl rfl rfl (c26 p _ _ (by omega) (by omega) ha.cons.cons hnm hs15) ?_
    rintro _ w20 ⟨B1, aq_B1, cq_B1, rfl, h_B1, hs21⟩
    replace hs21 := (show St _ _ (B1 ++ (_ :: _ :: F)) from hs21)
    refine w_pure want_none (y_move (v := .tuple _) rfl rfl) rfl ?_
    refine w_pure want_none (y_extract (v := .slice _ _ _) rfl rfl rfl) rfl ?_
    refine w_pure want_none (y_extract (v := .int _ _) rfl rfl rfl) rfl ?_
    refine w_pure want_none (y_extract (v := .int _ _) rfl rfl rfl) rfl ?_
    refine w_pure want_none (y_assign (v := .slice _ _ _) rfl rfl) rfl ?_
    refine w_pure want_none (y_assign (v := .int _ _) rfl rfl) rfl ?_
    refine w_pure want_none (y_assign (v := .int _ _) rfl rfl) rfl ?_
    refine w_nil ?_
    refine q_then (hK17 _ _ ?_)
    refine w_seq (fun K23 hK22 => ?_)
    refine w_region ?_
    refine w_pure want_none (y_move (v := .int _ _) rfl rfl) rfl ?_
    refine w_pure want_none (y_neq rfl rfl rfl rfl) rfl ?_
    refine w_pure want_none (y_move (v := .bool _) rfl rfl) rfl ?_
    refine w_split (fun h24 => ?_) (fun h24 => ?_)
    ·
      try simp only [Bool.not_eq_true', Bool.not_eq_false', decide_eq_true_eq, decide_eq_false_iff_not, Int.not_lt, Int.not_le] at h24
      refine w_call (want_yes rfl rfl rfl) Try.call23 rfl rfl rfl rfl (c23 hs21) ?_
      rintro _ w26 ⟨rfl, hs27⟩
      refine w_pure want_none (y_pickT (v := .bool _) rfl rfl rfl rfl) rfl ?_
      refine w_pure want_none (y_assign (v := .bool _) rfl rfl) rfl ?_
      refine w_nil ?_
      refine q_then (hK22 _ _ ?_)
      refine w_ret ?_
      refine q_then_ret ?_
      refine q_ret (l := [.tmp 6]) (vs := [_]) rfl ⟨⟨rfl, show _ = (.bool _ : Value) from rfl⟩, trivial⟩ ?_
      exact ⟨rfl, hs27.drop.tail.tail⟩
    ·
      exfalso
      try simp only [Bool.not_eq_true', Bool.not_eq_false', decide_eq_true_eq, decide_eq_false_iff_not, Int.not_lt, Int.not_le] at h24
      have hpe := (plan_e1 (p := p) (by assumption)).2.2; omega
  ·
    try simp only [Bool.not_eq_true', Bool.not_eq_false', decide_eq_true_eq, decide_eq_false_iff_not, Int.not_lt, Int.not_le] at h16
    refine w_skip ?_
    refine q_then (hK9 _ _ ?_)
    refine w_seq (fun K29 hK28 => ?_)
    have hck : (check p).2.2 = 0 := by assumption
    have hok := check_ok hck
    have hcome := hok.come
    have hlen3 := hok.len
    have hpe := plan_e09 hck
    refine w_region ?_
    refine w_pure want_none (y_loadN (vs := [_, _, _, _]) Try.isAgg26 Try.sizeOf26 hs15.tail rfl rfl hbx3) rfl ?_
    refine w_call want_none Try.call26 rfl rfl rfl rfl (c26 p _ _ (by omega) (by omega) ha.cons.cons hnm hs15) ?_
    rintro _ w31 ⟨B1, aq_B1, cq_B1, rfl, h_B1, hs32⟩
    replace hs32 := (show St _ _ (B1 ++ (_ :: _ :: F)) from hs32)
    refine w_pure want_none (y_move (v := .tuple _) rfl rfl) rfl ?_
    refine w_pure want_none (y_extract (v := .slice _ _ _) rfl rfl rfl) rfl ?_
    refine w_pure want_none (y_extract (v := .int _ _) rfl rfl rfl) rfl ?_
    refine w_pure want_none (y_extract (v := .int _ _) rfl rfl rfl) rfl ?_
    refine w_pure want_none (y_assign (v := .slice _ _ _) rfl rfl) rfl ?_
    refine w_pure want_none (y_assign (v := .int _ _) rfl rfl) rfl ?_
    refine w_pure want_none (y_assign (v := .int _ _) rfl rfl) rfl ?_
    refine w_nil ?_
    refine q_then (hK28 _ _ ?_)
    refine w_seq (fun K34 hK33 => ?_)
    refine w_seq (fun K36 hK35 => ?_)
    refine w_region ?_
    refine w_pure want_none (y_move (v := .int _ _) rfl rfl) rfl ?_
    refine w_pure want_none (y_neq rfl rfl rfl rfl) rfl ?_
    refine w_pure want_none (y_move (v := .bool _) rfl rfl) rfl ?_
    refine w_split (fun h37 => ?_) (fun h37 => ?_)
    ·
      try simp only [Bool.not_eq_true', Bool.not_eq_false', decide_eq_true_eq, decide_eq_false_iff_not, Int.not_lt, Int.not_le] at h37
      refine w_pure (want_yes rfl rfl rfl) (y_move (v := .int _ _) rfl rfl) rfl ?_
      refine w_pure (want_yes rfl rfl rfl) (y_neq rfl rfl rfl rfl) rfl ?_
      refine w_pure want_none (y_pickT (v := .bool _) rfl rfl rfl rfl) rfl ?_
      refine w_nil ?_
      refine q_then (hK35 _ _ ?_)
      refine w_cond rfl rfl (fun h38 => ?_) (fun h38 => ?_)
      ·
        exfalso
        try simp only [Bool.not_eq_true', Bool.not_eq_false', decide_eq_true_eq, decide_eq_false_iff_not, Int.not_lt, Int.not_le] at h38
        omega
      ·
        try simp only [Bool.not_eq_true', Bool.not_eq_false', decide_eq_true_eq, decide_eq_false_iff_not, Int.not_lt, Int.not_le] at h38
        refine w_skip ?_
        refine q_then (hK33 _ _ ?_)
        refine w_seq (fun K40 hK39 => ?_)
        refine w_seq (fun K42 hK41 => ?_)
        refine w_region ?_
        refine w_pure want_none (y_move (v := .int _ _) rfl rfl) rfl ?_
        refine w_pure want_none (y_eql rfl rfl rfl rfl) rfl ?_
        refine w_nil ?_
        refine q_then (hK41 _ _ ?_)
        refine w_cond rfl rfl (fun h43 => ?_) (fun h43 => ?_)
        ·
          try simp only [Bool.not_eq_true', Bool.not_eq_false', decide_eq_true_eq, decide_eq_false_iff_not, Int.not_lt, Int.not_le] at h43
          refine w_seq (fun K45 hK44 => ?_)
          refine w_seq (fun K47 hK46 => ?_)
          have hph := plan_has hck (by assumption)
          have hpl := do_len hph.1
          have hpi := do_in hph.1
          have hpt := truth_full hok hpl (x := x) (d := d)
          have hpf := hpt.1 (do_full hph.1)
          have hpv := hpt.2.2.1
          rw [← hph.2.1] at hpv
          refine w_region ?_
          refine w_pure want_none (y_loadN (vs := [_, _, _, _]) Try.isAgg26 Try.sizeOf26 hs32.drop.tail rfl rfl hbx3) rfl ?_
          refine w_pure want_none (y_move (v := .slice _ _ _) rfl rfl) rfl ?_
          refine w_call want_none Try.call38 rfl rfl rfl rfl (c38 p _ _ (by omega) _ _ (planL p) (by omega) h_B1 hs32) ?_
          rintro _ w49 ⟨rfl, hs50⟩
          refine w_pure want_none (y_not rfl rfl) rfl ?_
          refine w_nil ?_
          refine q_then (hK46 _ _ ?_)
          refine w_cond rfl rfl (fun h51 => ?_) (fun h51 => ?_)
          ·
            exfalso
            try simp only [Bool.not_eq_true', Bool.not_eq_false', decide_eq_true_eq, decide_eq_false_iff_not, Int.not_lt, Int.not_le] at h51
            simp [fine_ok hpl hpi] at h51
          ·
            try simp only [Bool.not_eq_true', Bool.not_eq_false', decide_eq_true_eq, decide_eq_false_iff_not, Int.not_lt, Int.not_le] at h51
            refine w_skip ?_
            refine q_then (hK44 _ _ ?_)
            refine w_seq (fun K53 hK52 => ?_)
            refine w_region ?_
            refine w_pure want_none (y_loadN (vs := [_, _, _, _]) Try.isAgg26 Try.sizeOf26 hs50.drop.tail rfl rfl hbx3) rfl ?_
            refine w_pure want_none (y_move (v := .slice _ _ _) rfl rfl) rfl ?_
            refine w_pure want_none (y_loadN (vs := [_, _]) Try.isAgg48 Try.sizeOf48 hs50.drop rfl rfl hbx5) rfl ?_
            refine w_call want_none Try.call39 rfl rfl rfl rfl (c39 p _ _ ha.cons.cons.app hok _ _ (planL p) hpl h_B1 hpi d hd _ _ x hxl hxs.cons.cons.app hxr hs50) ?_
            rintro _ w55 ⟨rfl, hs56⟩
            refine w_pure want_none (y_move (v := .tuple _) rfl rfl) rfl ?_
            refine w_pure want_none (y_extract (v := .int _ _) rfl rfl rfl) rfl ?_
            refine w_pure want_none (y_extract (v := .int _ _) rfl rfl rfl) rfl ?_
            refine w_pure want_none (y_extract (v := .int _ _) rfl rfl rfl) rfl ?_
            refine w_pure want_none (y_assign (v := .int _ _) rfl rfl) rfl ?_
            refine w_pure want_none (y_assign (v := .int _ _) rfl rfl) rfl ?_
            refine w_pure want_none (y_assign (v := .int _ _) rfl rfl) rfl ?_
            refine w_nil ?_
            refine q_then (hK52 _ _ ?_)
            refine w_seq (fun K58 hK57 => ?_)
            refine w_region ?_
            refine w_pure want_none (y_move (v := .int _ _) rfl rfl) rfl ?_
            refine w_pure want_none (y_fieldAddr (o := 0) (i := 0) Try.underlying26 rfl Try.sizeOf3 rfl rfl rfl) rfl ?_
            refine w_pure want_none (y_load1 Try.isAgg3 hs56.drop.tail rfl rfl (show Ats _ _ _ _ [_] from Ats.part hbx3 0 1)) rfl ?_
            refine w_pure want_none (y_lss rfl rfl rfl rfl) rfl ?_
            refine w_pure want_none (y_move (v := .bool _) rfl rfl) rfl ?_
            refine w_split (fun h59 => ?_) (fun h59 => ?_)
            ·
              exfalso
              try simp only [Bool.not_eq_true', Bool.not_eq_false', decide_eq_true_eq, decide_eq_false_iff_not, Int.not_lt, Int.not_le] at h59
              omega
            ·
              try simp only [Bool.not_eq_true', Bool.not_eq_false', decide_eq_true_eq, decide_eq_false_iff_not, Int.not_lt, Int.not_le] at h59
              refine w_pure (want_yes rfl rfl rfl) (y_move (v := .int _ _) rfl rfl) rfl ?_
              refine w_pure (want_yes rfl rfl rfl) (y_move (v := .int _ _) rfl rfl) rfl ?_
              refine w_pure (want_yes rfl rfl rfl) (y_gtr rfl rfl rfl rfl) rfl ?_
              refine w_pure want_none (y_pickF (v := .bool _) rfl rfl rfl rfl) rfl ?_
              refine w_nil ?_
              refine q_then (hK57 _ _ ?_)
              refine w_cond rfl rfl (fun h60 => ?_) (fun h60 => ?_)
              ·
                exfalso
                try simp only [Bool.not_eq_true', Bool.not_eq_false', decide_eq_true_eq, decide_eq_false_iff_not, Int.not_lt, Int.not_le] at h60
                omega
              ·
                try simp only [Bool.not_eq_true', Bool.not_eq_false', decide_eq_true_eq, decide_eq_false_iff_not, Int.not_lt, Int.not_le] at h60
                refine w_skip ?_
                refine q_then (hK39 _ _ ?_)
                refine w_seq (fun K62 hK61 => ?_)
                refine w_region ?_
                refine w_pure want_none (y_loadN (vs := [_, _, _, _]) Try.isAgg26 Try.sizeOf26 hs56.drop.tail rfl rfl hbx3) rfl ?_
                refine w_pure want_none (y_move (v := .slice _ _ _) rfl rfl) rfl ?_
                refine w_call want_none Try.call40 rfl rfl rfl rfl (c40 p _ _ (by omega) _ _ y hyl hys.cons.cons.app hyr hs56) ?_
                rintro _ w64 ⟨B2, aq2, cq2, rfl, h_B2, hs65⟩
                replace hs65 := (show St _ _ (B2 ++ (B1 ++ (_ :: _ :: F))) from hs65)
                refine w_pure want_none (y_assign (v := .slice _ _ _) rfl rfl) rfl ?_
                refine w_nil ?_
                refine q_then (hK61 _ _ ?_)
                refine w_seq (fun K67 hK66 => ?_)
                have hee := enter_any hck (any_len _ y) any_in
                have hql := quay_len hee (by omega)
                have hot := truth_full hok (any_len p.farms.length y) (x := x) (d := d)
                have hfr := fullR_eq hee
                have hvr := vainR_eq hee
                have hF1 : fullR p (anyC p.farms.length y) = 1 → p.hold ≤ (trU p.farms (anyC p.farms.length y) x (p.clo + (d % (p.chi - p.clo + 1))) p.farms.length).1 := fun h => hot.1 (does_one.1 (by omega))
                have hF2 : fullR p (anyC p.farms.length y) = 2 → (trU p.farms (anyC p.farms.length y) x (p.clo + (d % (p.chi - p.clo + 1))) p.farms.length).1 < p.hold := fun h => hot.2.1 (does_two (by omega))
                have hF3 : fullR p (anyC p.farms.length y) = 1 → planE p = 0 := fun h => (plan_iff hck).2 (List.length_pos_of_mem (do_mem (any_all _ y) (does_one.1 (by omega))))
                have hq1 := Int.emod_nonneg d (show p.chi - p.clo + 1 ≠ 0 by omega)
                have hq2 := Int.emod_lt_of_pos d (show 0 < p.chi - p.clo + 1 by omega)
                refine w_region ?_
                refine w_pure want_none (y_loadN (vs := [_, _, _, _]) Try.isAgg26 Try.sizeOf26 hs65.drop.drop.tail rfl rfl hbx3) rfl ?_
                refine w_pure want_none (y_move (v := .slice _ _ _) rfl rfl) rfl ?_
                refine w_call want_none Try.call18 rfl rfl rfl rfl (c18 p _ _ (by omega) (by omega) ha.cons.cons.app.app hnm _ _ (anyC p.farms.length y) (by rw [any_len]; omega) h_B2 hs65) ?_
                rintro _ w69 ⟨B3, aq3, cq3, rfl, h_B3, hs70⟩
                replace hs70 := (show St _ _ (B3 ++ (B2 ++ (B1 ++ (_ :: _ :: F)))) from hs70)
                refine w_pure want_none (y_move (v := .tuple _) rfl rfl) rfl ?_
                refine w_pure want_none (y_extract (v := .slice _ _ _) rfl rfl rfl) rfl ?_
                refine w_pure want_none (y_extract (v := .int _ _) rfl rfl rfl) rfl ?_
                refine w_pure want_none (y_assign (v := .slice _ _ _) rfl rfl) rfl ?_
                refine w_pure want_none (y_assign (v := .int _ _) rfl rfl) rfl ?_
                refine w_nil ?_
                refine q_then (hK66 _ _ ?_)
                refine w_seq (fun K72 hK71 => ?_)
                refine w_region ?_
                refine w_pure want_none (y_loadN (vs := [_, _, _, _]) Try.isAgg26 Try.sizeOf26 hs70.drop.drop.drop.tail rfl rfl hbx3) rfl ?_
                refine w_pure want_none (y_move (v := .slice _ _ _) rfl rfl) rfl ?_
                refine w_call want_none Try.call21 rfl rfl rfl rfl (c21 p _ _ (by omega) (by omega) ha.cons.cons.app.app.app hnm _ _ (anyC p.farms.length y) (by rw [any_len]; omega) h_B2.app hs70) ?_
                rintro _ w74 ⟨rfl, hs75⟩
                refine w_pure want_none (y_move (v := .tuple _) rfl rfl) rfl ?_
                refine w_pure want_none (y_extract (v := .int _ _) rfl rfl rfl) rfl ?_
                refine w_pure want_none (y_extract (v := .int _ _) rfl rfl rfl) rfl ?_
                refine w_pure want_none (y_assign (v := .int _ _) rfl rfl) rfl ?_
                refine w_pure want_none (y_assign (v := .int _ _) rfl rfl) rfl ?_
                refine w_nil ?_
                refine q_then (hK71 _ _ ?_)
                refine w_seq (fun K77 hK76 => ?_)
                refine w_region ?_
                refine w_pure want_none (y_loadN (vs := [_, _, _, _]) Try.isAgg26 Try.sizeOf26 hs75.drop.drop.drop.tail rfl rfl hbx3) rfl ?_
                refine w_pure want_none (y_move (v := .slice _ _ _) rfl rfl) rfl ?_
                refine w_call want_none Try.call24 rfl rfl rfl rfl (c24 p _ _ (by omega) (by omega) ha.cons.cons.app.app.app hnm _ _ (anyC p.farms.length y) (by rw [any_len]; omega) h_B2.app hs75) ?_
                rintro _ w79 ⟨rfl, hs80⟩
                refine w_pure want_none (y_move (v := .tuple _) rfl rfl) rfl ?_
                refine w_pure want_none (y_extract (v := .int _ _) rfl rfl rfl) rfl ?_
                refine w_pure want_none (y_extract (v := .int _ _) rfl rfl rfl) rfl ?_
                refine w_pure want_none (y_assign (v := .int _ _) rfl rfl) rfl ?_
                refine w_pure want_none (y_assign (v := .int _ _) rfl rfl) rfl ?_
                refine w_nil ?_
                refine q_then (hK76 _ _ ?_)
                refine w_seq (fun K82 hK81 => ?_)
                refine w_region ?_
                refine w_pure want_none (y_loadN (vs := [_, _, _, _]) Try.isAgg26 Try.sizeOf26 hs80.drop.drop.drop.tail rfl rfl hbx3) rfl ?_
                refine w_pure want_none (y_move (v := .slice _ _ _) rfl rfl) rfl ?_
                refine w_pure want_none (y_loadN (vs := [_, _]) Try.isAgg48 Try.sizeOf48 hs80.drop.drop.drop rfl rfl hbx5) rfl ?_
                refine w_call want_none Try.call39 rfl rfl rfl rfl (c39 p _ _ ha.cons.cons.app.app.app hok _ _ (anyC p.farms.length y) (any_len _ _) h_B2.app any_in d hd _ _ x hxl hxs.cons.cons.app.app.app hxr hs80) ?_
                rintro _ w84 ⟨rfl, hs85⟩
                refine w_pure want_none (y_move (v := .tuple _) rfl rfl) rfl ?_
                refine w_pure want_none (y_extract (v := .int _ _) rfl rfl rfl) rfl ?_
                refine w_pure want_none (y_extract (v := .int _ _) rfl rfl rfl) rfl ?_
                refine w_pure want_none (y_extract (v := .int _ _) rfl rfl rfl) rfl ?_
                refine w_pure want_none (y_assign (v := .int _ _) rfl rfl) rfl ?_
                refine w_pure want_none (y_assign (v := .int _ _) rfl rfl) rfl ?_
                refine w_pure want_none (y_assign (v := .int _ _) rfl rfl) rfl ?_
                refine w_nil ?_
                refine q_then (hK81 _ _ ?_)
                refine w_seq (fun K87 hK86 => ?_)
                refine w_seq (fun K89 hK88 => ?_)
                refine w_region ?_
                refine w_pure want_none (y_move (v := .int _ _) rfl rfl) rfl ?_
                refine w_pure want_none (y_neq rfl rfl rfl rfl) rfl ?_
                refine w_pure want_none (y_move (v := .bool _) rfl rfl) rfl ?_
                refine w_split (fun h90 => ?_) (fun h90 => ?_)
                ·
                  exfalso
                  try simp only [Bool.not_eq_true', Bool.not_eq_false', decide_eq_true_eq, decide_eq_false_iff_not, Int.not_lt, Int.not_le] at h90
                  omega
                ·
                  try simp only [Bool.not_eq_true', Bool.not_eq_false', decide_eq_true_eq, decide_eq_false_iff_not, Int.not_lt, Int.not_le] at h90
                  refine w_pure (want_yes rfl rfl rfl) (y_move (v := .int _ _) rfl rfl) rfl ?_
                  refine w_pure (want_yes rfl rfl rfl) (y_neq rfl rfl rfl rfl) rfl ?_
                  refine w_pure want_none (y_pickF (v := .bool _) rfl rfl rfl rfl) rfl ?_
                  refine w_pure want_none (y_move (v := .bool _) rfl rfl) rfl ?_
                  refine w_split (fun h91 => ?_) (fun h91 => ?_)
                  ·
                    exfalso
                    try simp only [Bool.not_eq_true', Bool.not_eq_false', decide_eq_true_eq, decide_eq_false_iff_not, Int.not_lt, Int.not_le] at h91
                    omega
                  ·
                    try simp only [Bool.not_eq_true', Bool.not_eq_false', decide_eq_true_eq, decide_eq_false_iff_not, Int.not_lt, Int.not_le] at h91
                    refine w_pure (want_yes rfl rfl rfl) (y_move (v := .int _ _) rfl rfl) rfl ?_
                    refine w_pure (want_yes rfl rfl rfl) (y_neq rfl rfl rfl rfl) rfl ?_
                    refine w_pure want_none (y_pickF (v := .bool _) rfl rfl rfl rfl) rfl ?_
                    refine w_pure want_none (y_move (v := .bool _) rfl rfl) rfl ?_
                    refine w_split (fun h92 => ?_) (fun h92 => ?_)
                    ·
                      exfalso
                      try simp only [Bool.not_eq_true', Bool.not_eq_false', decide_eq_true_eq, decide_eq_false_iff_not, Int.not_lt, Int.not_le] at h92
                      omega
                    ·
                      try simp only [Bool.not_eq_true', Bool.not_eq_false', decide_eq_true_eq, decide_eq_false_iff_not, Int.not_lt, Int.not_le] at h92
                      refine w_pure (want_yes rfl rfl rfl) (y_move (v := .slice _ _ _) rfl rfl) rfl ?_
                      refine w_pure (want_yes rfl rfl rfl) (y_lenS Try.underlying31 rfl rfl) rfl ?_
                      refine w_pure (want_yes rfl rfl rfl) (y_fieldAddr (o := 1) (i := 1) Try.underlying26 rfl Try.sizeOf23 rfl rfl rfl) rfl ?_
                      refine w_pure (want_yes rfl rfl rfl) (y_fieldAddr (o := 1) (i := 1) Try.underlying23 rfl Try.sizeOf3 rfl rfl rfl) rfl ?_
                      refine w_pure (want_yes rfl rfl rfl) (y_load1 Try.isAgg3 hs85.drop.drop.drop.tail rfl rfl (show Ats _ _ _ _ [_] from Ats.part hbx3 2 1)) rfl ?_
                      refine w_pure (want_yes rfl rfl rfl) (y_fieldAddr (o := 1) (i := 1) Try.underlying26 rfl Try.sizeOf23 rfl rfl rfl) rfl ?_
                      refine w_pure (want_yes rfl rfl rfl) (y_fieldAddr (o := 0) (i := 0) Try.underlying23 rfl Try.sizeOf3 rfl rfl rfl) rfl ?_
                      refine w_pure (want_yes rfl rfl rfl) (y_load1 Try.isAgg3 hs85.drop.drop.drop.tail rfl rfl (show Ats _ _ _ _ [_] from Ats.part hbx3 1 1)) rfl ?_
                      refine w_pure (want_yes rfl rfl rfl) (y_sub rfl rfl rfl rfl (by omega) (by omega)) rfl ?_
                      refine w_pure (want_yes rfl rfl rfl) (y_add rfl rfl rfl rfl (by omega) (by omega)) rfl ?_
                      refine w_pure (want_yes rfl rfl rfl) (y_neq rfl rfl rfl rfl) rfl ?_
                      refine w_pure want_none (y_pickF (v := .bool _) rfl rfl rfl rfl) rfl ?_
                      refine w_pure want_none (y_move (v := .bool _) rfl rfl) rfl ?_
                      refine w_split (fun h93 => ?_) (fun h93 => ?_)
                      ·
                        exfalso
                        try simp only [Bool.not_eq_true', Bool.not_eq_false', decide_eq_true_eq, decide_eq_false_iff_not, Int.not_lt, Int.not_le] at h93
                        omega
                      ·
                        try simp only [Bool.not_eq_true', Bool.not_eq_false', decide_eq_true_eq, decide_eq_false_iff_not, Int.not_lt, Int.not_le] at h93
                        refine w_pure (want_yes rfl rfl rfl) (y_move (v := .int _ _) rfl rfl) rfl ?_
                        refine w_pure (want_yes rfl rfl rfl) (y_move (v := .slice _ _ _) rfl rfl) rfl ?_
                        refine w_pure (want_yes rfl rfl rfl) (y_move (v := .int _ _) rfl rfl) rfl ?_
                        have hqi : ((d % (p.chi - p.clo + 1))).toNat < (quayR p (anyC p.farms.length y)).length := by omega
                        obtain ⟨bs, os, rfl, hsp⟩ := sl_spans h_B3 hqi
                        replace hsp := hsp.2
                        rw [quay_get hee hqi, Int.toNat_of_nonneg hq1] at hsp
                        refine w_pure (want_yes rfl rfl rfl) (y_indexS Try.underlying31 Try.sizeOf23 rfl rfl rfl rfl (i := ((d % (p.chi - p.clo + 1))).toNat) (by omega) (by omega)) rfl ?_
                        refine w_pure (want_yes rfl rfl rfl) (y_loadN (vs := [_, _]) Try.isAgg23 Try.sizeOf23 hs85 rfl rfl hsp) rfl ?_
                        refine w_call (want_yes rfl rfl rfl) Try.call41 rfl rfl rfl rfl (c41 _ _ _ hs85) ?_
                        rintro _ w95 ⟨rfl, hs96⟩
                        refine w_pure (want_yes rfl rfl rfl) (y_not rfl rfl) rfl ?_
                        refine w_pure want_none (y_pickF (v := .bool _) rfl rfl rfl rfl) rfl ?_
                        refine w_pure want_none (y_move (v := .bool _) rfl rfl) rfl ?_
                        refine w_split (fun h97 => ?_) (fun h97 => ?_)
                        ·
                          exfalso
                          try simp only [Bool.not_eq_true', Bool.not_eq_false', decide_eq_true_eq, decide_eq_false_iff_not, Int.not_lt, Int.not_le] at h97
                          omega
                        ·
                          try simp only [Bool.not_eq_true', Bool.not_eq_false', decide_eq_true_eq, decide_eq_false_iff_not, Int.not_lt, Int.not_le] at h97
                          refine w_pure (want_yes rfl rfl rfl) (y_move (v := .int _ _) rfl rfl) rfl ?_
                          refine w_pure (want_yes rfl rfl rfl) (y_move (v := .int _ _) rfl rfl) rfl ?_
                          refine w_pure (want_yes rfl rfl rfl) (y_gtr rfl rfl rfl rfl) rfl ?_
                          refine w_pure want_none (y_pickF (v := .bool _) rfl rfl rfl rfl) rfl ?_
                          refine w_nil ?_
                          refine q_then (hK88 _ _ ?_)
                          refine w_cond rfl rfl (fun h98 => ?_) (fun h98 => ?_)
                          ·
                            exfalso
                            try simp only [Bool.not_eq_true', Bool.not_eq_false', decide_eq_true_eq, decide_eq_false_iff_not, Int.not_lt, Int.not_le] at h98
                            omega
                          ·
                            try simp only [Bool.not_eq_true', Bool.not_eq_false', decide_eq_true_eq, decide_eq_false_iff_not, Int.not_lt, Int.not_le] at h98
                            refine w_skip ?_
                            refine q_then (hK86 _ _ ?_)
                            refine w_seq (fun K100 hK99 => ?_)
                            refine w_region ?_
                            refine w_pure want_none (y_move (v := .int _ _) rfl rfl) rfl ?_
                            refine w_pure want_none (y_fieldAddr (o := 0) (i := 0) Try.underlying26 rfl Try.sizeOf3 rfl rfl rfl) rfl ?_
                            refine w_pure want_none (y_load1 Try.isAgg3 hs96.drop.drop.drop.tail rfl rfl (show Ats _ _ _ _ [_] from Ats.part hbx3 0 1)) rfl ?_
                            refine w_pure want_none (y_geq rfl rfl rfl rfl) rfl ?_
                            refine w_pure want_none (y_assign (v := .bool _) rfl rfl) rfl ?_
                            refine w_nil ?_
                            refine q_then (hK99 _ _ ?_)
                            refine w_seq (fun K102 hK101 => ?_)
                            refine w_region ?_
                            refine w_pure want_none (y_move (v := .int _ _) rfl rfl) rfl ?_
                            refine w_pure want_none (y_neq rfl rfl rfl rfl) rfl ?_
                            refine w_pure want_none (y_move (v := .bool _) rfl rfl) rfl ?_
                            refine w_split (fun h103 => ?_) (fun h103 => ?_)
                            ·
                              try simp only [Bool.not_eq_true', Bool.not_eq_false', decide_eq_true_eq, decide_eq_false_iff_not, Int.not_lt, Int.not_le] at h103
                              refine w_skipop rfl rfl rfl ?_
                              refine w_pure want_none (y_pickT (v := _) rfl rfl rfl rfl) rfl ?_
                              refine w_pure want_none (y_move (v := .bool _) rfl rfl) rfl ?_
                              refine w_pure (want_yes rfl rfl rfl) (y_move (v := .int _ _) rfl rfl) rfl ?_
                              refine w_pure (want_yes rfl rfl rfl) (y_neq rfl rfl rfl rfl) rfl ?_
                              refine w_pure (want_yes rfl rfl rfl) (y_move (v := .bool _) rfl rfl) rfl ?_
                              refine w_split (fun h104 => ?_) (fun h104 => ?_)
                              ·
                                try simp only [Bool.not_eq_true', Bool.not_eq_false', decide_eq_true_eq, decide_eq_false_iff_not, Int.not_lt, Int.not_le] at h104
                                refine w_skipop rfl rfl rfl ?_
                                refine w_skipop rfl rfl rfl ?_
                                refine w_pure (want_yes rfl rfl rfl) (y_pickT (v := _) rfl rfl rfl rfl) rfl ?_
                                refine w_pure want_none (y_pickT (v := .bool _) rfl rfl rfl rfl) rfl ?_
                                refine w_pure want_none (y_move (v := .bool _) rfl rfl) rfl ?_
                                refine w_pure (want_yes rfl rfl rfl) (y_move (v := .int _ _) rfl rfl) rfl ?_
                                refine w_pure (want_yes rfl rfl rfl) (y_neq rfl rfl rfl rfl) rfl ?_
                                refine w_pure (want_yes rfl rfl rfl) (y_move (v := .bool _) rfl rfl) rfl ?_
                                refine w_split (fun h105 => ?_) (fun h105 => ?_)
                                ·
                                  try simp only [Bool.not_eq_true', Bool.not_eq_false', decide_eq_true_eq, decide_eq_false_iff_not, Int.not_lt, Int.not_le] at h105
                                  refine w_skipop rfl rfl rfl ?_
                                  refine w_skipop rfl rfl rfl ?_
                                  refine w_pure (want_yes rfl rfl rfl) (y_pickT (v := _) rfl rfl rfl rfl) rfl ?_
                                  refine w_pure want_none (y_pickT (v := .bool _) rfl rfl rfl rfl) rfl ?_
                                  refine w_pure want_none (y_move (v := .bool _) rfl rfl) rfl ?_
                                  refine w_call (want_yes rfl rfl rfl) Try.call23 rfl rfl rfl rfl (c23 hs96) ?_
                                  rintro _ w107 ⟨rfl, hs108⟩
                                  refine w_pure want_none (y_pickT (v := .bool _) rfl rfl rfl rfl) rfl ?_
                                  refine w_pure want_none (y_assign (v := .bool _) rfl rfl) rfl ?_
                                  refine w_nil ?_
                                  refine q_then (hK101 _ _ ?_)
                                  refine w_ret ?_
                                  refine q_ret (l := [.tmp 6]) (vs := [_]) rfl ⟨⟨rfl, show _ = (.bool _ : Value) from rfl⟩, trivial⟩ ?_
                                  exact ⟨rfl, hs108.drop.drop.drop.tail.tail⟩
                                ·
                                  try simp only [Bool.not_eq_true', Bool.not_eq_false', decide_eq_true_eq, decide_eq_false_iff_not, Int.not_lt, Int.not_le] at h105
                                  refine w_pure (want_yes rfl rfl rfl) (y_move (v := .int _ _) rfl rfl) rfl ?_
                                  refine w_pure (want_yes rfl rfl rfl) (y_eql rfl rfl rfl rfl) rfl ?_
                                  refine w_pure (want_yes rfl rfl rfl) (y_pickF (v := .bool _) rfl rfl rfl rfl) rfl ?_
                                  refine w_pure want_none (y_pickT (v := .bool _) rfl rfl rfl rfl) rfl ?_
                                  refine w_pure want_none (y_move (v := .bool _) rfl rfl) rfl ?_
                                  refine w_split (fun h109 => ?_) (fun h109 => ?_)
                                  ·
                                    try simp only [Bool.not_eq_true', Bool.not_eq_false', decide_eq_true_eq, decide_eq_false_iff_not, Int.not_lt, Int.not_le] at h109
                                    refine w_call (want_yes rfl rfl rfl) Try.call23 rfl rfl rfl rfl (c23 hs96) ?_
                                    rintro _ w111 ⟨rfl, hs112⟩
                                    refine w_pure want_none (y_pickT (v := .bool _) rfl rfl rfl rfl) rfl ?_
                                    refine w_pure want_none (y_assign (v := .bool _) rfl rfl) rfl ?_
                                    refine w_nil ?_
                                    refine q_then (hK101 _ _ ?_)
                                    refine w_ret ?_
                                    refine q_ret (l := [.tmp 6]) (vs := [_]) rfl ⟨⟨rfl, show _ = (.bool _ : Value) from rfl⟩, trivial⟩ ?_
                                    exact ⟨rfl, hs112.drop.drop.drop.tail.tail⟩
                                  ·
                                    exfalso
                                    try simp only [Bool.not_eq_true', Bool.not_eq_false', decide_eq_true_eq, decide_eq_false_iff_not, Int.not_lt, Int.not_le] at h109
                                    omega
                              ·
                                try simp only [Bool.not_eq_true', Bool.not_eq_false', decide_eq_true_eq, decide_eq_false_iff_not, Int.not_lt, Int.not_le] at h104
                                refine w_pure (want_yes rfl rfl rfl) (y_move (v := .bool _) rfl rfl) rfl ?_
                                refine w_pure (want_yes rfl rfl rfl) (y_not rfl rfl) rfl ?_
                                refine w_pure (want_yes rfl rfl rfl) (y_pickF (v := .bool _) rfl rfl rfl rfl) rfl ?_
                                refine w_pure want_none (y_pickT (v := .bool _) rfl rfl rfl rfl) rfl ?_
                                refine w_pure want_none (y_move (v := .bool _) rfl rfl) rfl ?_
                                refine w_split (fun h113 => ?_) (fun h113 => ?_)
                                ·
                                  try simp only [Bool.not_eq_true', Bool.not_eq_false', decide_eq_true_eq, decide_eq_false_iff_not, Int.not_lt, Int.not_le] at h113
                                  refine w_pure (want_yes rfl rfl rfl) (y_move (v := .int _ _) rfl rfl) rfl ?_
                                  refine w_pure (want_yes rfl rfl rfl) (y_neq rfl rfl rfl rfl) rfl ?_
                                  refine w_pure (want_yes rfl rfl rfl) (y_move (v := .bool _) rfl rfl) rfl ?_
                                  refine w_split (fun h114 => ?_) (fun h114 => ?_)
                                  ·
                                    try simp only [Bool.not_eq_true', Bool.not_eq_false', decide_eq_true_eq, decide_eq_false_iff_not, Int.not_lt, Int.not_le] at h114
                                    refine w_skipop rfl rfl rfl ?_
                                    refine w_skipop rfl rfl rfl ?_
                                    refine w_pure (want_yes rfl rfl rfl) (y_pickT (v := _) rfl rfl rfl rfl) rfl ?_
                                    refine w_pure want_none (y_pickT (v := .bool _) rfl rfl rfl rfl) rfl ?_
                                    refine w_pure want_none (y_move (v := .bool _) rfl rfl) rfl ?_
                                    refine w_call (want_yes rfl rfl rfl) Try.call23 rfl rfl rfl rfl (c23 hs96) ?_
                                    rintro _ w116 ⟨rfl, hs117⟩
                                    refine w_pure want_none (y_pickT (v := .bool _) rfl rfl rfl rfl) rfl ?_
                                    refine w_pure want_none (y_assign (v := .bool _) rfl rfl) rfl ?_
                                    refine w_nil ?_
                                    refine q_then (hK101 _ _ ?_)
                                    refine w_ret ?_
                                    refine q_ret (l := [.tmp 6]) (vs := [_]) rfl ⟨⟨rfl, show _ = (.bool _ : Value) from rfl⟩, trivial⟩ ?_
                                    exact ⟨rfl, hs117.drop.drop.drop.tail.tail⟩
                                  ·
                                    try simp only [Bool.not_eq_true', Bool.not_eq_false', decide_eq_true_eq, decide_eq_false_iff_not, Int.not_lt, Int.not_le] at h114
                                    refine w_pure (want_yes rfl rfl rfl) (y_move (v := .int _ _) rfl rfl) rfl ?_
                                    refine w_pure (want_yes rfl rfl rfl) (y_eql rfl rfl rfl rfl) rfl ?_
                                    refine w_pure (want_yes rfl rfl rfl) (y_pickF (v := .bool _) rfl rfl rfl rfl) rfl ?_
                                    refine w_pure want_none (y_pickT (v := .bool _) rfl rfl rfl rfl) rfl ?_
                                    refine w_pure want_none (y_move (v := .bool _) rfl rfl) rfl ?_
                                    refine w_split (fun h118 => ?_) (fun h118 => ?_)
                                    ·
                                      try simp only [Bool.not_eq_true', Bool.not_eq_false', decide_eq_true_eq, decide_eq_false_iff_not, Int.not_lt, Int.not_le] at h118
                                      refine w_call (want_yes rfl rfl rfl) Try.call23 rfl rfl rfl rfl (c23 hs96) ?_
                                      rintro _ w120 ⟨rfl, hs121⟩
                                      refine w_pure want_none (y_pickT (v := .bool _) rfl rfl rfl rfl) rfl ?_
                                      refine w_pure want_none (y_assign (v := .bool _) rfl rfl) rfl ?_
                                      refine w_nil ?_
                                      refine q_then (hK101 _ _ ?_)
                                      refine w_ret ?_
                                      refine q_ret (l := [.tmp 6]) (vs := [_]) rfl ⟨⟨rfl, show _ = (.bool _ : Value) from rfl⟩, trivial⟩ ?_
                                      exact ⟨rfl, hs121.drop.drop.drop.tail.tail⟩
                                    ·
                                      exfalso
                                      try simp only [Bool.not_eq_true', Bool.not_eq_false', decide_eq_true_eq, decide_eq_false_iff_not, Int.not_lt, Int.not_le] at h118
                                      omega
                                ·
                                  exfalso
                                  try simp only [Bool.not_eq_true', Bool.not_eq_false', decide_eq_true_eq, decide_eq_false_iff_not, Int.not_lt, Int.not_le] at h113
                                  omega
                            ·
                              try simp only [Bool.not_eq_true', Bool.not_eq_false', decide_eq_true_eq, decide_eq_false_iff_not, Int.not_lt, Int.not_le] at h103
                              refine w_pure (want_yes rfl rfl rfl) (y_move (v := .bool _) rfl rfl) rfl ?_
                              refine w_pure want_none (y_pickF (v := .bool _) rfl rfl rfl rfl) rfl ?_
                              refine w_pure want_none (y_move (v := .bool _) rfl rfl) rfl ?_
                              refine w_split (fun h122 => ?_) (fun h122 => ?_)
                              ·
                                try simp only [Bool.not_eq_true', Bool.not_eq_false', decide_eq_true_eq, decide_eq_false_iff_not, Int.not_lt, Int.not_le] at h122
                                refine w_pure (want_yes rfl rfl rfl) (y_move (v := .int _ _) rfl rfl) rfl ?_
                                refine w_pure (want_yes rfl rfl rfl) (y_neq rfl rfl rfl rfl) rfl ?_
                                refine w_pure (want_yes rfl rfl rfl) (y_move (v := .bool _) rfl rfl) rfl ?_
                                refine w_split (fun h123 => ?_) (fun h123 => ?_)
                                ·
                                  try simp only [Bool.not_eq_true', Bool.not_eq_false', decide_eq_true_eq, decide_eq_false_iff_not, Int.not_lt, Int.not_le] at h123
                                  refine w_skipop rfl rfl rfl ?_
                                  refine w_skipop rfl rfl rfl ?_
                                  refine w_pure (want_yes rfl rfl rfl) (y_pickT (v := _) rfl rfl rfl rfl) rfl ?_
                                  refine w_pure want_none (y_pickT (v := .bool _) rfl rfl rfl rfl) rfl ?_
                                  refine w_pure want_none (y_move (v := .bool _) rfl rfl) rfl ?_
                                  refine w_pure (want_yes rfl rfl rfl) (y_move (v := .int _ _) rfl rfl) rfl ?_
                                  refine w_pure (want_yes rfl rfl rfl) (y_neq rfl rfl rfl rfl) rfl ?_
                                  refine w_pure (want_yes rfl rfl rfl) (y_move (v := .bool _) rfl rfl) rfl ?_
                                  refine w_split (fun h124 => ?_) (fun h124 => ?_)
                                  ·
                                    try simp only [Bool.not_eq_true', Bool.not_eq_false', decide_eq_true_eq, decide_eq_false_iff_not, Int.not_lt, Int.not_le] at h124
                                    refine w_skipop rfl rfl rfl ?_
                                    refine w_skipop rfl rfl rfl ?_
                                    refine w_pure (want_yes rfl rfl rfl) (y_pickT (v := _) rfl rfl rfl rfl) rfl ?_
                                    refine w_pure want_none (y_pickT (v := .bool _) rfl rfl rfl rfl) rfl ?_
                                    refine w_pure want_none (y_move (v := .bool _) rfl rfl) rfl ?_
                                    refine w_call (want_yes rfl rfl rfl) Try.call23 rfl rfl rfl rfl (c23 hs96) ?_
                                    rintro _ w126 ⟨rfl, hs127⟩
                                    refine w_pure want_none (y_pickT (v := .bool _) rfl rfl rfl rfl) rfl ?_
                                    refine w_pure want_none (y_assign (v := .bool _) rfl rfl) rfl ?_
                                    refine w_nil ?_
                                    refine q_then (hK101 _ _ ?_)
                                    refine w_ret ?_
                                    refine q_ret (l := [.tmp 6]) (vs := [_]) rfl ⟨⟨rfl, show _ = (.bool _ : Value) from rfl⟩, trivial⟩ ?_
                                    exact ⟨rfl, hs127.drop.drop.drop.tail.tail⟩
                                  ·
                                    try simp only [Bool.not_eq_true', Bool.not_eq_false', decide_eq_true_eq, decide_eq_false_iff_not, Int.not_lt, Int.not_le] at h124
                                    refine w_pure (want_yes rfl rfl rfl) (y_move (v := .int _ _) rfl rfl) rfl ?_
                                    refine w_pure (want_yes rfl rfl rfl) (y_eql rfl rfl rfl rfl) rfl ?_
                                    refine w_pure (want_yes rfl rfl rfl) (y_pickF (v := .bool _) rfl rfl rfl rfl) rfl ?_
                                    refine w_pure want_none (y_pickT (v := .bool _) rfl rfl rfl rfl) rfl ?_
                                    refine w_pure want_none (y_move (v := .bool _) rfl rfl) rfl ?_
                                    refine w_split (fun h128 => ?_) (fun h128 => ?_)
                                    ·
                                      try simp only [Bool.not_eq_true', Bool.not_eq_false', decide_eq_true_eq, decide_eq_false_iff_not, Int.not_lt, Int.not_le] at h128
                                      refine w_call (want_yes rfl rfl rfl) Try.call23 rfl rfl rfl rfl (c23 hs96) ?_
                                      rintro _ w130 ⟨rfl, hs131⟩
                                      refine w_pure want_none (y_pickT (v := .bool _) rfl rfl rfl rfl) rfl ?_
                                      refine w_pure want_none (y_assign (v := .bool _) rfl rfl) rfl ?_
                                      refine w_nil ?_
                                      refine q_then (hK101 _ _ ?_)
                                      refine w_ret ?_
                                      refine q_ret (l := [.tmp 6]) (vs := [_]) rfl ⟨⟨rfl, show _ = (.bool _ : Value) from rfl⟩, trivial⟩ ?_
                                      exact ⟨rfl, hs131.drop.drop.drop.tail.tail⟩
                                    ·
                                      exfalso
                                      try simp only [Bool.not_eq_true', Bool.not_eq_false', decide_eq_true_eq, decide_eq_false_iff_not, Int.not_lt, Int.not_le] at h128
                                      omega
                                ·
                                  try simp only [Bool.not_eq_true', Bool.not_eq_false', decide_eq_true_eq, decide_eq_false_iff_not, Int.not_lt, Int.not_le] at h123
                                  refine w_pure (want_yes rfl rfl rfl) (y_move (v := .bool _) rfl rfl) rfl ?_
                                  refine w_pure (want_yes rfl rfl rfl) (y_not rfl rfl) rfl ?_
                                  refine w_pure (want_yes rfl rfl rfl) (y_pickF (v := .bool _) rfl rfl rfl rfl) rfl ?_
                                  refine w_pure want_none (y_pickT (v := .bool _) rfl rfl rfl rfl) rfl ?_
                                  refine w_pure want_none (y_move (v := .bool _) rfl rfl) rfl ?_
                                  refine w_split (fun h132 => ?_) (fun h132 => ?_)
                                  ·
                                    try simp only [Bool.not_eq_true', Bool.not_eq_false', decide_eq_true_eq, decide_eq_false_iff_not, Int.not_lt, Int.not_le] at h132
                                    refine w_pure (want_yes rfl rfl rfl) (y_move (v := .int _ _) rfl rfl) rfl ?_
                                    refine w_pure (want_yes rfl rfl rfl) (y_neq rfl rfl rfl rfl) rfl ?_
                                    refine w_pure (want_yes rfl rfl rfl) (y_move (v := .bool _) rfl rfl) rfl ?_
                                    refine w_split (fun h133 => ?_) (fun h133 => ?_)
                                    ·
                                      try simp only [Bool.not_eq_true', Bool.not_eq_false', decide_eq_true_eq, decide_eq_false_iff_not, Int.not_lt, Int.not_le] at h133
                                      refine w_skipop rfl rfl rfl ?_
                                      refine w_skipop rfl rfl rfl ?_
                                      refine w_pure (want_yes rfl rfl rfl) (y_pickT (v := _) rfl rfl rfl rfl) rfl ?_
                                      refine w_pure want_none (y_pickT (v := .bool _) rfl rfl rfl rfl) rfl ?_
                                      refine w_pure want_none (y_move (v := .bool _) rfl rfl) rfl ?_
                                      refine w_call (want_yes rfl rfl rfl) Try.call23 rfl rfl rfl rfl (c23 hs96) ?_
                                      rintro _ w135 ⟨rfl, hs136⟩
                                      refine w_pure want_none (y_pickT (v := .bool _) rfl rfl rfl rfl) rfl ?_
                                      refine w_pure want_none (y_assign (v := .bool _) rfl rfl) rfl ?_
                                      refine w_nil ?_
                                      refine q_then (hK101 _ _ ?_)
                                      refine w_ret ?_
                                      refine q_ret (l := [.tmp 6]) (vs := [_]) rfl ⟨⟨rfl, show _ = (.bool _ : Value) from rfl⟩, trivial⟩ ?_
                                      exact ⟨rfl, hs136.drop.drop.drop.tail.tail⟩
                                    ·
                                      try simp only [Bool.not_eq_true', Bool.not_eq_false', decide_eq_true_eq, decide_eq_false_iff_not, Int.not_lt, Int.not_le] at h133
                                      refine w_pure (want_yes rfl rfl rfl) (y_move (v := .int _ _) rfl rfl) rfl ?_
                                      refine w_pure (want_yes rfl rfl rfl) (y_eql rfl rfl rfl rfl) rfl ?_
                                      refine w_pure (want_yes rfl rfl rfl) (y_pickF (v := .bool _) rfl rfl rfl rfl) rfl ?_
                                      refine w_pure want_none (y_pickT (v := .bool _) rfl rfl rfl rfl) rfl ?_
                                      refine w_pure want_none (y_move (v := .bool _) rfl rfl) rfl ?_
                                      refine w_split (fun h137 => ?_) (fun h137 => ?_)
                                      ·
                                        try simp only [Bool.not_eq_true', Bool.not_eq_false', decide_eq_true_eq, decide_eq_false_iff_not, Int.not_lt, Int.not_le] at h137
                                        refine w_call (want_yes rfl rfl rfl) Try.call23 rfl rfl rfl rfl (c23 hs96) ?_
                                        rintro _ w139 ⟨rfl, hs140⟩
                                        refine w_pure want_none (y_pickT (v := .bool _) rfl rfl rfl rfl) rfl ?_
                                        refine w_pure want_none (y_assign (v := .bool _) rfl rfl) rfl ?_
                                        refine w_nil ?_
                                        refine q_then (hK101 _ _ ?_)
                                        refine w_ret ?_
                                        refine q_ret (l := [.tmp 6]) (vs := [_]) rfl ⟨⟨rfl, show _ = (.bool _ : Value) from rfl⟩, trivial⟩ ?_
                                        exact ⟨rfl, hs140.drop.drop.drop.tail.tail⟩
                                      ·
                                        exfalso
                                        try simp only [Bool.not_eq_true', Bool.not_eq_false', decide_eq_true_eq, decide_eq_false_iff_not, Int.not_lt, Int.not_le] at h137
                                        omega
                                  ·
                                    exfalso
                                    try simp only [Bool.not_eq_true', Bool.not_eq_false', decide_eq_true_eq, decide_eq_false_iff_not, Int.not_lt, Int.not_le] at h132
                                    omega
                              ·
                                exfalso
                                try simp only [Bool.not_eq_true', Bool.not_eq_false', decide_eq_true_eq, decide_eq_false_iff_not, Int.not_lt, Int.not_le] at h122
                                omega
        ·
          try simp only [Bool.not_eq_true', Bool.not_eq_false', decide_eq_true_eq, decide_eq_false_iff_not, Int.not_lt, Int.not_le] at h43
          refine w_skip ?_
          refine q_then (hK39 _ _ ?_)
          refine w_seq (fun K142 hK141 => ?_)
          refine w_region ?_
          refine w_pure want_none (y_loadN (vs := [_, _, _, _]) Try.isAgg26 Try.sizeOf26 hs32.drop.tail rfl rfl hbx3) rfl ?_
          refine w_pure want_none (y_move (v := .slice _ _ _) rfl rfl) rfl ?_
          refine w_call want_none Try.call40 rfl rfl rfl rfl (c40 p _ _ (by omega) _ _ y hyl hys.cons.cons.app hyr hs32) ?_
          rintro _ w144 ⟨B2, aq2, cq2, rfl, h_B2, hs145⟩
          replace hs145 := (show St _ _ (B2 ++ (B1 ++ (_ :: _ :: F))) from hs145)
          refine w_pure want_none (y_assign (v := .slice _ _ _) rfl rfl) rfl ?_
          refine w_nil ?_
          refine q_then (hK141 _ _ ?_)
          refine w_seq (fun K147 hK146 => ?_)
          have hee := enter_any hck (any_len _ y) any_in
          have hql := quay_len hee (by omega)
          have hot := truth_full hok (any_len p.farms.length y) (x := x) (d := d)
          have hfr := fullR_eq hee
          have hvr := vainR_eq hee
          have hF1 : fullR p (anyC p.farms.length y) = 1 → p.hold ≤ (trU p.farms (anyC p.farms.length y) x (p.clo + (d % (p.chi - p.clo + 1))) p.farms.length).1 := fun h => hot.1 (does_one.1 (by omega))
          have hF2 : fullR p (anyC p.farms.length y) = 2 → (trU p.farms (anyC p.farms.length y) x (p.clo + (d % (p.chi - p.clo + 1))) p.farms.length).1 < p.hold := fun h => hot.2.1 (does_two (by omega))
          have hF3 : fullR p (anyC p.farms.length y) = 1 → planE p = 0 := fun h => (plan_iff hck).2 (List.length_pos_of_mem (do_mem (any_all _ y) (does_one.1 (by omega))))
          have hq1 := Int.emod_nonneg d (show p.chi - p.clo + 1 ≠ 0 by omega)
          have hq2 := Int.emod_lt_of_pos d (show 0 < p.chi - p.clo + 1 by omega)
          refine w_region ?_
          refine w_pure want_none (y_loadN (vs := [_, _, _, _]) Try.isAgg26 Try.sizeOf26 hs145.drop.drop.tail rfl rfl hbx3) rfl ?_
          refine w_pure want_none (y_move (v := .slice _ _ _) rfl rfl) rfl ?_
          refine w_call want_none Try.call18 rfl rfl rfl rfl (c18 p _ _ (by omega) (by omega) ha.cons.cons.app.app hnm _ _ (anyC p.farms.length y) (by rw [any_len]; omega) h_B2 hs145) ?_
          rintro _ w149 ⟨B3, aq3, cq3, rfl, h_B3, hs150⟩
          replace hs150 := (show St _ _ (B3 ++ (B2 ++ (B1 ++ (_ :: _ :: F)))) from hs150)
          refine w_pure want_none (y_move (v := .tuple _) rfl rfl) rfl ?_
          refine w_pure want_none (y_extract (v := .slice _ _ _) rfl rfl rfl) rfl ?_
          refine w_pure want_none (y_extract (v := .int _ _) rfl rfl rfl) rfl ?_
          refine w_pure want_none (y_assign (v := .slice _ _ _) rfl rfl) rfl ?_
          refine w_pure want_none (y_assign (v := .int _ _) rfl rfl) rfl ?_
          refine w_nil ?_
          refine q_then (hK146 _ _ ?_)
          refine w_seq (fun K152 hK151 => ?_)
          refine w_region ?_
          refine w_pure want_none (y_loadN (vs := [_, _, _, _]) Try.isAgg26 Try.sizeOf26 hs150.drop.drop.drop.tail rfl rfl hbx3) rfl ?_
          refine w_pure want_none (y_move (v := .slice _ _ _) rfl rfl) rfl ?_
          refine w_call want_none Try.call21 rfl rfl rfl rfl (c21 p _ _ (by omega) (by omega) ha.cons.cons.app.app.app hnm _ _ (anyC p.farms.length y) (by rw [any_len]; omega) h_B2.app hs150) ?_
          rintro _ w154 ⟨rfl, hs155⟩
          refine w_pure want_none (y_move (v := .tuple _) rfl rfl) rfl ?_
          refine w_pure want_none (y_extract (v := .int _ _) rfl rfl rfl) rfl ?_
          refine w_pure want_none (y_extract (v := .int _ _) rfl rfl rfl) rfl ?_
          refine w_pure want_none (y_assign (v := .int _ _) rfl rfl) rfl ?_
          refine w_pure want_none (y_assign (v := .int _ _) rfl rfl) rfl ?_
          refine w_nil ?_
          refine q_then (hK151 _ _ ?_)
          refine w_seq (fun K157 hK156 => ?_)
          refine w_region ?_
          refine w_pure want_none (y_loadN (vs := [_, _, _, _]) Try.isAgg26 Try.sizeOf26 hs155.drop.drop.drop.tail rfl rfl hbx3) rfl ?_
          refine w_pure want_none (y_move (v := .slice _ _ _) rfl rfl) rfl ?_
          refine w_call want_none Try.call24 rfl rfl rfl rfl (c24 p _ _ (by omega) (by omega) ha.cons.cons.app.app.app hnm _ _ (anyC p.farms.length y) (by rw [any_len]; omega) h_B2.app hs155) ?_
          rintro _ w159 ⟨rfl, hs160⟩
          refine w_pure want_none (y_move (v := .tuple _) rfl rfl) rfl ?_
          refine w_pure want_none (y_extract (v := .int _ _) rfl rfl rfl) rfl ?_
          refine w_pure want_none (y_extract (v := .int _ _) rfl rfl rfl) rfl ?_
          refine w_pure want_none (y_assign (v := .int _ _) rfl rfl) rfl ?_
          refine w_pure want_none (y_assign (v := .int _ _) rfl rfl) rfl ?_
          refine w_nil ?_
          refine q_then (hK156 _ _ ?_)
          refine w_seq (fun K162 hK161 => ?_)
          refine w_region ?_
          refine w_pure want_none (y_loadN (vs := [_, _, _, _]) Try.isAgg26 Try.sizeOf26 hs160.drop.drop.drop.tail rfl rfl hbx3) rfl ?_
          refine w_pure want_none (y_move (v := .slice _ _ _) rfl rfl) rfl ?_
          refine w_pure want_none (y_loadN (vs := [_, _]) Try.isAgg48 Try.sizeOf48 hs160.drop.drop.drop rfl rfl hbx5) rfl ?_
          refine w_call want_none Try.call39 rfl rfl rfl rfl (c39 p _ _ ha.cons.cons.app.app.app hok _ _ (anyC p.farms.length y) (any_len _ _) h_B2.app any_in d hd _ _ x hxl hxs.cons.cons.app.app.app hxr hs160) ?_
          rintro _ w164 ⟨rfl, hs165⟩
          refine w_pure want_none (y_move (v := .tuple _) rfl rfl) rfl ?_
          refine w_pure want_none (y_extract (v := .int _ _) rfl rfl rfl) rfl ?_
          refine w_pure want_none (y_extract (v := .int _ _) rfl rfl rfl) rfl ?_
          refine w_pure want_none (y_extract (v := .int _ _) rfl rfl rfl) rfl ?_
          refine w_pure want_none (y_assign (v := .int _ _) rfl rfl) rfl ?_
          refine w_pure want_none (y_assign (v := .int _ _) rfl rfl) rfl ?_
          refine w_pure want_none (y_assign (v := .int _ _) rfl rfl) rfl ?_
          refine w_nil ?_
          refine q_then (hK161 _ _ ?_)
          refine w_seq (fun K167 hK166 => ?_)
          refine w_seq (fun K169 hK168 => ?_)
          refine w_region ?_
          refine w_pure want_none (y_move (v := .int _ _) rfl rfl) rfl ?_
          refine w_pure want_none (y_neq rfl rfl rfl rfl) rfl ?_
          refine w_pure want_none (y_move (v := .bool _) rfl rfl) rfl ?_
          refine w_split (fun h170 => ?_) (fun h170 => ?_)
          ·
            exfalso
            try simp only [Bool.not_eq_true', Bool.not_eq_false', decide_eq_true_eq, decide_eq_false_iff_not, Int.not_lt, Int.not_le] at h170
            omega
          ·
            try simp only [Bool.not_eq_true', Bool.not_eq_false', decide_eq_true_eq, decide_eq_false_iff_not, Int.not_lt, Int.not_le] at h170
            refine w_pure (want_yes rfl rfl rfl) (y_move (v := .int _ _) rfl rfl) rfl ?_
            refine w_pure (want_yes rfl rfl rfl) (y_neq rfl rfl rfl rfl) rfl ?_
            refine w_pure want_none (y_pickF (v := .bool _) rfl rfl rfl rfl) rfl ?_
            refine w_pure want_none (y_move (v := .bool _) rfl rfl) rfl ?_
            refine w_split (fun h171 => ?_) (fun h171 => ?_)
            ·
              exfalso
              try simp only [Bool.not_eq_true', Bool.not_eq_false', decide_eq_true_eq, decide_eq_false_iff_not, Int.not_lt, Int.not_le] at h171
              omega
            ·
              try simp only [Bool.not_eq_true', Bool.not_eq_false', decide_eq_true_eq, decide_eq_false_iff_not, Int.not_lt, Int.not_le] at h171
              refine w_pure (want_yes rfl rfl rfl) (y_move (v := .int _ _) rfl rfl) rfl ?_
              refine w_pure (want_yes rfl rfl rfl) (y_neq rfl rfl rfl rfl) rfl ?_
              refine w_pure want_none (y_pickF (v := .bool _) rfl rfl rfl rfl) rfl ?_
              refine w_pure want_none (y_move (v := .bool _) rfl rfl) rfl ?_
              refine w_split (fun h172 => ?_) (fun h172 => ?_)
              ·
                exfalso
                try simp only [Bool.not_eq_true', Bool.not_eq_false', decide_eq_true_eq, decide_eq_false_iff_not, Int.not_lt, Int.not_le] at h172
                omega
              ·
                try simp only [Bool.not_eq_true', Bool.not_eq_false', decide_eq_true_eq, decide_eq_false_iff_not, Int.not_lt, Int.not_le] at h172
                refine w_pure (want_yes rfl rfl rfl) (y_move (v := .slice _ _ _) rfl rfl) rfl ?_
                refine w_pure (want_yes rfl rfl rfl) (y_lenS Try.underlying31 rfl rfl) rfl ?_
                refine w_pure (want_yes rfl rfl rfl) (y_fieldAddr (o := 1) (i := 1) Try.underlying26 rfl Try.sizeOf23 rfl rfl rfl) rfl ?_
                refine w_pure (want_yes rfl rfl rfl) (y_fieldAddr (o := 1) (i := 1) Try.underlying23 rfl Try.sizeOf3 rfl rfl rfl) rfl ?_
                refine w_pure (want_yes rfl rfl rfl) (y_load1 Try.isAgg3 hs165.drop.drop.drop.tail rfl rfl (show Ats _ _ _ _ [_] from Ats.part hbx3 2 1)) rfl ?_
                refine w_pure (want_yes rfl rfl rfl) (y_fieldAddr (o := 1) (i := 1) Try.underlying26 rfl Try.sizeOf23 rfl rfl rfl) rfl ?_
                refine w_pure (want_yes rfl rfl rfl) (y_fieldAddr (o := 0) (i := 0) Try.underlying23 rfl Try.sizeOf3 rfl rfl rfl) rfl ?_
                refine w_pure (want_yes rfl rfl rfl) (y_load1 Try.isAgg3 hs165.drop.drop.drop.tail rfl rfl (show Ats _ _ _ _ [_] from Ats.part hbx3 1 1)) rfl ?_
                refine w_pure (want_yes rfl rfl rfl) (y_sub rfl rfl rfl rfl (by omega) (by omega)) rfl ?_
                refine w_pure (want_yes rfl rfl rfl) (y_add rfl rfl rfl rfl (by omega) (by omega)) rfl ?_
                refine w_pure (want_yes rfl rfl rfl) (y_neq rfl rfl rfl rfl) rfl ?_
                refine w_pure want_none (y_pickF (v := .bool _) rfl rfl rfl rfl) rfl ?_
                refine w_pure want_none (y_move (v := .bool _) rfl rfl) rfl ?_
                refine w_split (fun h173 => ?_) (fun h173 => ?_)
                ·
                  exfalso
                  try simp only [Bool.not_eq_true', Bool.not_eq_false', decide_eq_true_eq, decide_eq_false_iff_not, Int.not_lt, Int.not_le] at h173
                  omega
                ·
                  try simp only [Bool.not_eq_true', Bool.not_eq_false', decide_eq_true_eq, decide_eq_false_iff_not, Int.not_lt, Int.not_le] at h173
                  refine w_pure (want_yes rfl rfl rfl) (y_move (v := .int _ _) rfl rfl) rfl ?_
                  refine w_pure (want_yes rfl rfl rfl) (y_move (v := .slice _ _ _) rfl rfl) rfl ?_
                  refine w_pure (want_yes rfl rfl rfl) (y_move (v := .int _ _) rfl rfl) rfl ?_
                  have hqi : ((d % (p.chi - p.clo + 1))).toNat < (quayR p (anyC p.farms.length y)).length := by omega
                  obtain ⟨bs, os, rfl, hsp⟩ := sl_spans h_B3 hqi
                  replace hsp := hsp.2
                  rw [quay_get hee hqi, Int.toNat_of_nonneg hq1] at hsp
                  refine w_pure (want_yes rfl rfl rfl) (y_indexS Try.underlying31 Try.sizeOf23 rfl rfl rfl rfl (i := ((d % (p.chi - p.clo + 1))).toNat) (by omega) (by omega)) rfl ?_
                  refine w_pure (want_yes rfl rfl rfl) (y_loadN (vs := [_, _]) Try.isAgg23 Try.sizeOf23 hs165 rfl rfl hsp) rfl ?_
                  refine w_call (want_yes rfl rfl rfl) Try.call41 rfl rfl rfl rfl (c41 _ _ _ hs165) ?_
                  rintro _ w175 ⟨rfl, hs176⟩
                  refine w_pure (want_yes rfl rfl rfl) (y_not rfl rfl) rfl ?_
                  refine w_pure want_none (y_pickF (v := .bool _) rfl rfl rfl rfl) rfl ?_
                  refine w_pure want_none (y_move (v := .bool _) rfl rfl) rfl ?_
                  refine w_split (fun h177 => ?_) (fun h177 => ?_)
                  ·
                    exfalso
                    try simp only [Bool.not_eq_true', Bool.not_eq_false', decide_eq_true_eq, decide_eq_false_iff_not, Int.not_lt, Int.not_le] at h177
                    omega
                  ·
                    try simp only [Bool.not_eq_true', Bool.not_eq_false', decide_eq_true_eq, decide_eq_false_iff_not, Int.not_lt, Int.not_le] at h177
                    refine w_pure (want_yes rfl rfl rfl) (y_move (v := .int _ _) rfl rfl) rfl ?_
                    refine w_pure (want_yes rfl rfl rfl) (y_move (v := .int _ _) rfl rfl) rfl ?_
                    refine w_pure (want_yes rfl rfl rfl) (y_gtr rfl rfl rfl rfl) rfl ?_
                    refine w_pure want_none (y_pickF (v := .bool _) rfl rfl rfl rfl) rfl ?_
                    refine w_nil ?_
                    refine q_then (hK168 _ _ ?_)
                    refine w_cond rfl rfl (fun h178 => ?_) (fun h178 => ?_)
                    ·
                      exfalso
                      try simp only [Bool.not_eq_true', Bool.not_eq_false', decide_eq_true_eq, decide_eq_false_iff_not, Int.not_lt, Int.not_le] at h178
                      omega
                    ·
                      try simp only [Bool.not_eq_true', Bool.not_eq_false', decide_eq_true_eq, decide_eq_false_iff_not, Int.not_lt, Int.not_le] at h178
                      refine w_skip ?_
                      refine q_then (hK166 _ _ ?_)
                      refine w_seq (fun K180 hK179 => ?_)
                      refine w_region ?_
                      refine w_pure want_none (y_move (v := .int _ _) rfl rfl) rfl ?_
                      refine w_pure want_none (y_fieldAddr (o := 0) (i := 0) Try.underlying26 rfl Try.sizeOf3 rfl rfl rfl) rfl ?_
                      refine w_pure want_none (y_load1 Try.isAgg3 hs176.drop.drop.drop.tail rfl rfl (show Ats _ _ _ _ [_] from Ats.part hbx3 0 1)) rfl ?_
                      refine w_pure want_none (y_geq rfl rfl rfl rfl) rfl ?_
                      refine w_pure want_none (y_assign (v := .bool _) rfl rfl) rfl ?_
                      refine w_nil ?_
                      refine q_then (hK179 _ _ ?_)
                      refine w_seq (fun K182 hK181 => ?_)
                      refine w_region ?_
                      refine w_pure want_none (y_move (v := .int _ _) rfl rfl) rfl ?_
                      refine w_pure want_none (y_neq rfl rfl rfl rfl) rfl ?_
                      refine w_pure want_none (y_move (v := .bool _) rfl rfl) rfl ?_
                      refine w_split (fun h183 => ?_) (fun h183 => ?_)
                      ·
                        try simp only [Bool.not_eq_true', Bool.not_eq_false', decide_eq_true_eq, decide_eq_false_iff_not, Int.not_lt, Int.not_le] at h183
                        refine w_skipop rfl rfl rfl ?_
                        refine w_pure want_none (y_pickT (v := _) rfl rfl rfl rfl) rfl ?_
                        refine w_pure want_none (y_move (v := .bool _) rfl rfl) rfl ?_
                        refine w_pure (want_yes rfl rfl rfl) (y_move (v := .int _ _) rfl rfl) rfl ?_
                        refine w_pure (want_yes rfl rfl rfl) (y_neq rfl rfl rfl rfl) rfl ?_
                        refine w_pure (want_yes rfl rfl rfl) (y_move (v := .bool _) rfl rfl) rfl ?_
                        refine w_split (fun h184 => ?_) (fun h184 => ?_)
                        ·
                          try simp only [Bool.not_eq_true', Bool.not_eq_false', decide_eq_true_eq, decide_eq_false_iff_not, Int.not_lt, Int.not_le] at h184
                          refine w_skipop rfl rfl rfl ?_
                          refine w_skipop rfl rfl rfl ?_
                          refine w_pure (want_yes rfl rfl rfl) (y_pickT (v := _) rfl rfl rfl rfl) rfl ?_
                          refine w_pure want_none (y_pickT (v := .bool _) rfl rfl rfl rfl) rfl ?_
                          refine w_pure want_none (y_move (v := .bool _) rfl rfl) rfl ?_
                          refine w_pure (want_yes rfl rfl rfl) (y_move (v := .int _ _) rfl rfl) rfl ?_
                          refine w_pure (want_yes rfl rfl rfl) (y_neq rfl rfl rfl rfl) rfl ?_
                          refine w_pure (want_yes rfl rfl rfl) (y_move (v := .bool _) rfl rfl) rfl ?_
                          refine w_split (fun h185 => ?_) (fun h185 => ?_)
                          ·
                            try simp only [Bool.not_eq_true', Bool.not_eq_false', decide_eq_true_eq, decide_eq_false_iff_not, Int.not_lt, Int.not_le] at h185
                            refine w_skipop rfl rfl rfl ?_
                            refine w_skipop rfl rfl rfl ?_
                            refine w_pure (want_yes rfl rfl rfl) (y_pickT (v := _) rfl rfl rfl rfl) rfl ?_
                            refine w_pure want_none (y_pickT (v := .bool _) rfl rfl rfl rfl) rfl ?_
                            refine w_pure want_none (y_move (v := .bool _) rfl rfl) rfl ?_
                            refine w_call (want_yes rfl rfl rfl) Try.call23 rfl rfl rfl rfl (c23 hs176) ?_
                            rintro _ w187 ⟨rfl, hs188⟩
                            refine w_pure want_none (y_pickT (v := .bool _) rfl rfl rfl rfl) rfl ?_
                            refine w_pure want_none (y_assign (v := .bool _) rfl rfl) rfl ?_
                            refine w_nil ?_
                            refine q_then (hK181 _ _ ?_)
                            refine w_ret ?_
                            refine q_ret (l := [.tmp 6]) (vs := [_]) rfl ⟨⟨rfl, show _ = (.bool _ : Value) from rfl⟩, trivial⟩ ?_
                            exact ⟨rfl, hs188.drop.drop.drop.tail.tail⟩
                          ·
                            try simp only [Bool.not_eq_true', Bool.not_eq_false', decide_eq_true_eq, decide_eq_false_iff_not, Int.not_lt, Int.not_le] at h185
                            refine w_pure (want_yes rfl rfl rfl) (y_move (v := .int _ _) rfl rfl) rfl ?_
                            refine w_pure (want_yes rfl rfl rfl) (y_eql rfl rfl rfl rfl) rfl ?_
                            refine w_pure (want_yes rfl rfl rfl) (y_pickF (v := .bool _) rfl rfl rfl rfl) rfl ?_
                            refine w_pure want_none (y_pickT (v := .bool _) rfl rfl rfl rfl) rfl ?_
                            refine w_pure want_none (y_move (v := .bool _) rfl rfl) rfl ?_
                            refine w_split (fun h189 => ?_) (fun h189 => ?_)
                            ·
                              try simp only [Bool.not_eq_true', Bool.not_eq_false', decide_eq_true_eq, decide_eq_false_iff_not, Int.not_lt, Int.not_le] at h189
                              refine w_call (want_yes rfl rfl rfl) Try.call23 rfl rfl rfl rfl (c23 hs176) ?_
                              rintro _ w191 ⟨rfl, hs192⟩
                              refine w_pure want_none (y_pickT (v := .bool _) rfl rfl rfl rfl) rfl ?_
                              refine w_pure want_none (y_assign (v := .bool _) rfl rfl) rfl ?_
                              refine w_nil ?_
                              refine q_then (hK181 _ _ ?_)
                              refine w_ret ?_
                              refine q_ret (l := [.tmp 6]) (vs := [_]) rfl ⟨⟨rfl, show _ = (.bool _ : Value) from rfl⟩, trivial⟩ ?_
                              exact ⟨rfl, hs192.drop.drop.drop.tail.tail⟩
                            ·
                              exfalso
                              try simp only [Bool.not_eq_true', Bool.not_eq_false', decide_eq_true_eq, decide_eq_false_iff_not, Int.not_lt, Int.not_le] at h189
                              omega
                        ·
                          try simp only [Bool.not_eq_true', Bool.not_eq_false', decide_eq_true_eq, decide_eq_false_iff_not, Int.not_lt, Int.not_le] at h184
                          refine w_pure (want_yes rfl rfl rfl) (y_move (v := .bool _) rfl rfl) rfl ?_
                          refine w_pure (want_yes rfl rfl rfl) (y_not rfl rfl) rfl ?_
                          refine w_pure (want_yes rfl rfl rfl) (y_pickF (v := .bool _) rfl rfl rfl rfl) rfl ?_
                          refine w_pure want_none (y_pickT (v := .bool _) rfl rfl rfl rfl) rfl ?_
                          refine w_pure want_none (y_move (v := .bool _) rfl rfl) rfl ?_
                          refine w_split (fun h193 => ?_) (fun h193 => ?_)
                          ·
                            try simp only [Bool.not_eq_true', Bool.not_eq_false', decide_eq_true_eq, decide_eq_false_iff_not, Int.not_lt, Int.not_le] at h193
                            refine w_pure (want_yes rfl rfl rfl) (y_move (v := .int _ _) rfl rfl) rfl ?_
                            refine w_pure (want_yes rfl rfl rfl) (y_neq rfl rfl rfl rfl) rfl ?_
                            refine w_pure (want_yes rfl rfl rfl) (y_move (v := .bool _) rfl rfl) rfl ?_
                            refine w_split (fun h194 => ?_) (fun h194 => ?_)
                            ·
                              try simp only [Bool.not_eq_true', Bool.not_eq_false', decide_eq_true_eq, decide_eq_false_iff_not, Int.not_lt, Int.not_le] at h194
                              refine w_skipop rfl rfl rfl ?_
                              refine w_skipop rfl rfl rfl ?_
                              refine w_pure (want_yes rfl rfl rfl) (y_pickT (v := _) rfl rfl rfl rfl) rfl ?_
                              refine w_pure want_none (y_pickT (v := .bool _) rfl rfl rfl rfl) rfl ?_
                              refine w_pure want_none (y_move (v := .bool _) rfl rfl) rfl ?_
                              refine w_call (want_yes rfl rfl rfl) Try.call23 rfl rfl rfl rfl (c23 hs176) ?_
                              rintro _ w196 ⟨rfl, hs197⟩
                              refine w_pure want_none (y_pickT (v := .bool _) rfl rfl rfl rfl) rfl ?_
                              refine w_pure want_none (y_assign (v := .bool _) rfl rfl) rfl ?_
                              refine w_nil ?_
                              refine q_then (hK181 _ _ ?_)
                              refine w_ret ?_
                              refine q_ret (l := [.tmp 6]) (vs := [_]) rfl ⟨⟨rfl, show _ = (.bool _ : Value) from rfl⟩, trivial⟩ ?_
                              exact ⟨rfl, hs197.drop.drop.drop.tail.tail⟩
                            ·
                              try simp only [Bool.not_eq_true', Bool.not_eq_false', decide_eq_true_eq, decide_eq_false_iff_not, Int.not_lt, Int.not_le] at h194
                              refine w_pure (want_yes rfl rfl rfl) (y_move (v := .int _ _) rfl rfl) rfl ?_
                              refine w_pure (want_yes rfl rfl rfl) (y_eql rfl rfl rfl rfl) rfl ?_
                              refine w_pure (want_yes rfl rfl rfl) (y_pickF (v := .bool _) rfl rfl rfl rfl) rfl ?_
                              refine w_pure want_none (y_pickT (v := .bool _) rfl rfl rfl rfl) rfl ?_
                              refine w_pure want_none (y_move (v := .bool _) rfl rfl) rfl ?_
                              refine w_split (fun h198 => ?_) (fun h198 => ?_)
                              ·
                                try simp only [Bool.not_eq_true', Bool.not_eq_false', decide_eq_true_eq, decide_eq_false_iff_not, Int.not_lt, Int.not_le] at h198
                                refine w_call (want_yes rfl rfl rfl) Try.call23 rfl rfl rfl rfl (c23 hs176) ?_
                                rintro _ w200 ⟨rfl, hs201⟩
                                refine w_pure want_none (y_pickT (v := .bool _) rfl rfl rfl rfl) rfl ?_
                                refine w_pure want_none (y_assign (v := .bool _) rfl rfl) rfl ?_
                                refine w_nil ?_
                                refine q_then (hK181 _ _ ?_)
                                refine w_ret ?_
                                refine q_ret (l := [.tmp 6]) (vs := [_]) rfl ⟨⟨rfl, show _ = (.bool _ : Value) from rfl⟩, trivial⟩ ?_
                                exact ⟨rfl, hs201.drop.drop.drop.tail.tail⟩
                              ·
                                exfalso
                                try simp only [Bool.not_eq_true', Bool.not_eq_false', decide_eq_true_eq, decide_eq_false_iff_not, Int.not_lt, Int.not_le] at h198
                                omega
                          ·
                            exfalso
                            try simp only [Bool.not_eq_true', Bool.not_eq_false', decide_eq_true_eq, decide_eq_false_iff_not, Int.not_lt, Int.not_le] at h193
                            omega
                      ·
                        try simp only [Bool.not_eq_true', Bool.not_eq_false', decide_eq_true_eq, decide_eq_false_iff_not, Int.not_lt, Int.not_le] at h183
                        refine w_pure (want_yes rfl rfl rfl) (y_move (v := .bool _) rfl rfl) rfl ?_
                        refine w_pure want_none (y_pickF (v := .bool _) rfl rfl rfl rfl) rfl ?_
                        refine w_pure want_none (y_move (v := .bool _) rfl rfl) rfl ?_
                        refine w_split (fun h202 => ?_) (fun h202 => ?_)
                        ·
                          try simp only [Bool.not_eq_true', Bool.not_eq_false', decide_eq_true_eq, decide_eq_false_iff_not, Int.not_lt, Int.not_le] at h202
                          refine w_pure (want_yes rfl rfl rfl) (y_move (v := .int _ _) rfl rfl) rfl ?_
                          refine w_pure (want_yes rfl rfl rfl) (y_neq rfl rfl rfl rfl) rfl ?_
                          refine w_pure (want_yes rfl rfl rfl) (y_move (v := .bool _) rfl rfl) rfl ?_
                          refine w_split (fun h203 => ?_) (fun h203 => ?_)
                          ·
                            try simp only [Bool.not_eq_true', Bool.not_eq_false', decide_eq_true_eq, decide_eq_false_iff_not, Int.not_lt, Int.not_le] at h203
                            refine w_skipop rfl rfl rfl ?_
                            refine w_skipop rfl rfl rfl ?_
                            refine w_pure (want_yes rfl rfl rfl) (y_pickT (v := _) rfl rfl rfl rfl) rfl ?_
                            refine w_pure want_none (y_pickT (v := .bool _) rfl rfl rfl rfl) rfl ?_
                            refine w_pure want_none (y_move (v := .bool _) rfl rfl) rfl ?_
                            refine w_pure (want_yes rfl rfl rfl) (y_move (v := .int _ _) rfl rfl) rfl ?_
                            refine w_pure (want_yes rfl rfl rfl) (y_neq rfl rfl rfl rfl) rfl ?_
                            refine w_pure (want_yes rfl rfl rfl) (y_move (v := .bool _) rfl rfl) rfl ?_
                            refine w_split (fun h204 => ?_) (fun h204 => ?_)
                            ·
                              try simp only [Bool.not_eq_true', Bool.not_eq_false', decide_eq_true_eq, decide_eq_false_iff_not, Int.not_lt, Int.not_le] at h204
                              refine w_skipop rfl rfl rfl ?_
                              refine w_skipop rfl rfl rfl ?_
                              refine w_pure (want_yes rfl rfl rfl) (y_pickT (v := _) rfl rfl rfl rfl) rfl ?_
                              refine w_pure want_none (y_pickT (v := .bool _) rfl rfl rfl rfl) rfl ?_
                              refine w_pure want_none (y_move (v := .bool _) rfl rfl) rfl ?_
                              refine w_call (want_yes rfl rfl rfl) Try.call23 rfl rfl rfl rfl (c23 hs176) ?_
                              rintro _ w206 ⟨rfl, hs207⟩
                              refine w_pure want_none (y_pickT (v := .bool _) rfl rfl rfl rfl) rfl ?_
                              refine w_pure want_none (y_assign (v := .bool _) rfl rfl) rfl ?_
                              refine w_nil ?_
                              refine q_then (hK181 _ _ ?_)
                              refine w_ret ?_
                              refine q_ret (l := [.tmp 6]) (vs := [_]) rfl ⟨⟨rfl, show _ = (.bool _ : Value) from rfl⟩, trivial⟩ ?_
                              exact ⟨rfl, hs207.drop.drop.drop.tail.tail⟩
                            ·
                              try simp only [Bool.not_eq_true', Bool.not_eq_false', decide_eq_true_eq, decide_eq_false_iff_not, Int.not_lt, Int.not_le] at h204
                              refine w_pure (want_yes rfl rfl rfl) (y_move (v := .int _ _) rfl rfl) rfl ?_
                              refine w_pure (want_yes rfl rfl rfl) (y_eql rfl rfl rfl rfl) rfl ?_
                              refine w_pure (want_yes rfl rfl rfl) (y_pickF (v := .bool _) rfl rfl rfl rfl) rfl ?_
                              refine w_pure want_none (y_pickT (v := .bool _) rfl rfl rfl rfl) rfl ?_
                              refine w_pure want_none (y_move (v := .bool _) rfl rfl) rfl ?_
                              refine w_split (fun h208 => ?_) (fun h208 => ?_)
                              ·
                                try simp only [Bool.not_eq_true', Bool.not_eq_false', decide_eq_true_eq, decide_eq_false_iff_not, Int.not_lt, Int.not_le] at h208
                                refine w_call (want_yes rfl rfl rfl) Try.call23 rfl rfl rfl rfl (c23 hs176) ?_
                                rintro _ w210 ⟨rfl, hs211⟩
                                refine w_pure want_none (y_pickT (v := .bool _) rfl rfl rfl rfl) rfl ?_
                                refine w_pure want_none (y_assign (v := .bool _) rfl rfl) rfl ?_
                                refine w_nil ?_
                                refine q_then (hK181 _ _ ?_)
                                refine w_ret ?_
                                refine q_ret (l := [.tmp 6]) (vs := [_]) rfl ⟨⟨rfl, show _ = (.bool _ : Value) from rfl⟩, trivial⟩ ?_
                                exact ⟨rfl, hs211.drop.drop.drop.tail.tail⟩
                              ·
                                exfalso
                                try simp only [Bool.not_eq_true', Bool.not_eq_false', decide_eq_true_eq, decide_eq_false_iff_not, Int.not_lt, Int.not_le] at h208
                                omega
                          ·
                            try simp only [Bool.not_eq_true', Bool.not_eq_false', decide_eq_true_eq, decide_eq_false_iff_not, Int.not_lt, Int.not_le] at h203
                            refine w_pure (want_yes rfl rfl rfl) (y_move (v := .bool _) rfl rfl) rfl ?_
                            refine w_pure (want_yes rfl rfl rfl) (y_not rfl rfl) rfl ?_
                            refine w_pure (want_yes rfl rfl rfl) (y_pickF (v := .bool _) rfl rfl rfl rfl) rfl ?_
                            refine w_pure want_none (y_pickT (v := .bool _) rfl rfl rfl rfl) rfl ?_
                            refine w_pure want_none (y_move (v := .bool _) rfl rfl) rfl ?_
                            refine w_split (fun h212 => ?_) (fun h212 => ?_)
                            ·
                              try simp only [Bool.not_eq_true', Bool.not_eq_false', decide_eq_true_eq, decide_eq_false_iff_not, Int.not_lt, Int.not_le] at h212
                              refine w_pure (want_yes rfl rfl rfl) (y_move (v := .int _ _) rfl rfl) rfl ?_
                              refine w_pure (want_yes rfl rfl rfl) (y_neq rfl rfl rfl rfl) rfl ?_
                              refine w_pure (want_yes rfl rfl rfl) (y_move (v := .bool _) rfl rfl) rfl ?_
                              refine w_split (fun h213 => ?_) (fun h213 => ?_)
                              ·
                                try simp only [Bool.not_eq_true', Bool.not_eq_false', decide_eq_true_eq, decide_eq_false_iff_not, Int.not_lt, Int.not_le] at h213
                                refine w_skipop rfl rfl rfl ?_
                                refine w_skipop rfl rfl rfl ?_
                                refine w_pure (want_yes rfl rfl rfl) (y_pickT (v := _) rfl rfl rfl rfl) rfl ?_
                                refine w_pure want_none (y_pickT (v := .bool _) rfl rfl rfl rfl) rfl ?_
                                refine w_pure want_none (y_move (v := .bool _) rfl rfl) rfl ?_
                                refine w_call (want_yes rfl rfl rfl) Try.call23 rfl rfl rfl rfl (c23 hs176) ?_
                                rintro _ w215 ⟨rfl, hs216⟩
                                refine w_pure want_none (y_pickT (v := .bool _) rfl rfl rfl rfl) rfl ?_
                                refine w_pure want_none (y_assign (v := .bool _) rfl rfl) rfl ?_
                                refine w_nil ?_
                                refine q_then (hK181 _ _ ?_)
                                refine w_ret ?_
                                refine q_ret (l := [.tmp 6]) (vs := [_]) rfl ⟨⟨rfl, show _ = (.bool _ : Value) from rfl⟩, trivial⟩ ?_
                                exact ⟨rfl, hs216.drop.drop.drop.tail.tail⟩
                              ·
                                try simp only [Bool.not_eq_true', Bool.not_eq_false', decide_eq_true_eq, decide_eq_false_iff_not, Int.not_lt, Int.not_le] at h213
                                refine w_pure (want_yes rfl rfl rfl) (y_move (v := .int _ _) rfl rfl) rfl ?_
                                refine w_pure (want_yes rfl rfl rfl) (y_eql rfl rfl rfl rfl) rfl ?_
                                refine w_pure (want_yes rfl rfl rfl) (y_pickF (v := .bool _) rfl rfl rfl rfl) rfl ?_
                                refine w_pure want_none (y_pickT (v := .bool _) rfl rfl rfl rfl) rfl ?_
                                refine w_pure want_none (y_move (v := .bool _) rfl rfl) rfl ?_
                                refine w_split (fun h217 => ?_) (fun h217 => ?_)
                                ·
                                  try simp only [Bool.not_eq_true', Bool.not_eq_false', decide_eq_true_eq, decide_eq_false_iff_not, Int.not_lt, Int.not_le] at h217
                                  refine w_call (want_yes rfl rfl rfl) Try.call23 rfl rfl rfl rfl (c23 hs176) ?_
                                  rintro _ w219 ⟨rfl, hs220⟩
                                  refine w_pure want_none (y_pickT (v := .bool _) rfl rfl rfl rfl) rfl ?_
                                  refine w_pure want_none (y_assign (v := .bool _) rfl rfl) rfl ?_
                                  refine w_nil ?_
                                  refine q_then (hK181 _ _ ?_)
                                  refine w_ret ?_
                                  refine q_ret (l := [.tmp 6]) (vs := [_]) rfl ⟨⟨rfl, show _ = (.bool _ : Value) from rfl⟩, trivial⟩ ?_
                                  exact ⟨rfl, hs220.drop.drop.drop.tail.tail⟩
                                ·
                                  exfalso
                                  try simp only [Bool.not_eq_true', Bool.not_eq_false', decide_eq_true_eq, decide_eq_false_iff_not, Int.not_lt, Int.not_le] at h217
                                  omega
                            ·
                              exfalso
                              try simp only [Bool.not_eq_true', Bool.not_eq_false', decide_eq_true_eq, decide_eq_false_iff_not, Int.not_lt, Int.not_le] at h212
                              omega
                        ·
                          exfalso
                          try simp only [Bool.not_eq_true', Bool.not_eq_false', decide_eq_true_eq, decide_eq_false_iff_not, Int.not_lt, Int.not_le] at h202
                          omega
    ·
      try simp only [Bool.not_eq_true', Bool.not_eq_false', decide_eq_true_eq, decide_eq_false_iff_not, Int.not_lt, Int.not_le] at h37
      refine w_skipop rfl rfl rfl ?_
      refine w_skipop rfl rfl rfl ?_
      refine w_pure want_none (y_pickF (v := _) rfl rfl rfl rfl) rfl ?_
      refine w_nil ?_
      refine q_then (hK35 _ _ ?_)
      refine w_condF rfl rfl ?_
      refine w_skip ?_
      refine q_then (hK33 _ _ ?_)
      refine w_seq (fun K222 hK221 => ?_)
      refine w_seq (fun K224 hK223 => ?_)
      refine w_region ?_
      refine w_pure want_none (y_move (v := .int _ _) rfl rfl) rfl ?_
      refine w_pure want_none (y_eql rfl rfl rfl rfl) rfl ?_
      refine w_nil ?_
      refine q_then (hK223 _ _ ?_)
      refine w_cond rfl rfl (fun h225 => ?_) (fun h225 => ?_)
      ·
        try simp only [Bool.not_eq_true', Bool.not_eq_false', decide_eq_true_eq, decide_eq_false_iff_not, Int.not_lt, Int.not_le] at h225
        refine w_seq (fun K227 hK226 => ?_)
        refine w_seq (fun K229 hK228 => ?_)
        have hph := plan_has hck (by assumption)
        have hpl := do_len hph.1
        have hpi := do_in hph.1
        have hpt := truth_full hok hpl (x := x) (d := d)
        have hpf := hpt.1 (do_full hph.1)
        have hpv := hpt.2.2.1
        rw [← hph.2.1] at hpv
        refine w_region ?_
        refine w_pure want_none (y_loadN (vs := [_, _, _, _]) Try.isAgg26 Try.sizeOf26 hs32.drop.tail rfl rfl hbx3) rfl ?_
        refine w_pure want_none (y_move (v := .slice _ _ _) rfl rfl) rfl ?_
        refine w_call want_none Try.call38 rfl rfl rfl rfl (c38 p _ _ (by omega) _ _ (planL p) (by omega) h_B1 hs32) ?_
        rintro _ w231 ⟨rfl, hs232⟩
        refine w_pure want_none (y_not rfl rfl) rfl ?_
        refine w_nil ?_
        refine q_then (hK228 _ _ ?_)
        refine w_cond rfl rfl (fun h233 => ?_) (fun h233 => ?_)
        ·
          exfalso
          try simp only [Bool.not_eq_true', Bool.not_eq_false', decide_eq_true_eq, decide_eq_false_iff_not, Int.not_lt, Int.not_le] at h233
          simp [fine_ok hpl hpi] at h233
        ·
          try simp only [Bool.not_eq_true', Bool.not_eq_false', decide_eq_true_eq, decide_eq_false_iff_not, Int.not_lt, Int.not_le] at h233
          refine w_skip ?_
          refine q_then (hK226 _ _ ?_)
          refine w_seq (fun K235 hK234 => ?_)
          refine w_region ?_
          refine w_pure want_none (y_loadN (vs := [_, _, _, _]) Try.isAgg26 Try.sizeOf26 hs232.drop.tail rfl rfl hbx3) rfl ?_
          refine w_pure want_none (y_move (v := .slice _ _ _) rfl rfl) rfl ?_
          refine w_pure want_none (y_loadN (vs := [_, _]) Try.isAgg48 Try.sizeOf48 hs232.drop rfl rfl hbx5) rfl ?_
          refine w_call want_none Try.call39 rfl rfl rfl rfl (c39 p _ _ ha.cons.cons.app hok _ _ (planL p) hpl h_B1 hpi d hd _ _ x hxl hxs.cons.cons.app hxr hs232) ?_
          rintro _ w237 ⟨rfl, hs238⟩
          refine w_pure want_none (y_move (v := .tuple _) rfl rfl) rfl ?_
          refine w_pure want_none (y_extract (v := .int _ _) rfl rfl rfl) rfl ?_
          refine w_pure want_none (y_extract (v := .int _ _) rfl rfl rfl) rfl ?_
          refine w_pure want_none (y_extract (v := .int _ _) rfl rfl rfl) rfl ?_
          refine w_pure want_none (y_assign (v := .int _ _) rfl rfl) rfl ?_
          refine w_pure want_none (y_assign (v := .int _ _) rfl rfl) rfl ?_
          refine w_pure want_none (y_assign (v := .int _ _) rfl rfl) rfl ?_
          refine w_nil ?_
          refine q_then (hK234 _ _ ?_)
          refine w_seq (fun K240 hK239 => ?_)
          refine w_region ?_
          refine w_pure want_none (y_move (v := .int _ _) rfl rfl) rfl ?_
          refine w_pure want_none (y_fieldAddr (o := 0) (i := 0) Try.underlying26 rfl Try.sizeOf3 rfl rfl rfl) rfl ?_
          refine w_pure want_none (y_load1 Try.isAgg3 hs238.drop.tail rfl rfl (show Ats _ _ _ _ [_] from Ats.part hbx3 0 1)) rfl ?_
          refine w_pure want_none (y_lss rfl rfl rfl rfl) rfl ?_
          refine w_pure want_none (y_move (v := .bool _) rfl rfl) rfl ?_
          refine w_split (fun h241 => ?_) (fun h241 => ?_)
          ·
            exfalso
            try simp only [Bool.not_eq_true', Bool.not_eq_false', decide_eq_true_eq, decide_eq_false_iff_not, Int.not_lt, Int.not_le] at h241
            omega
          ·
            try simp only [Bool.not_eq_true', Bool.not_eq_false', decide_eq_true_eq, decide_eq_false_iff_not, Int.not_lt, Int.not_le] at h241
            refine w_pure (want_yes rfl rfl rfl) (y_move (v := .int _ _) rfl rfl) rfl ?_
            refine w_pure (want_yes rfl rfl rfl) (y_move (v := .int _ _) rfl rfl) rfl ?_
            refine w_pure (want_yes rfl rfl rfl) (y_gtr rfl rfl rfl rfl) rfl ?_
            refine w_pure want_none (y_pickF (v := .bool _) rfl rfl rfl rfl) rfl ?_
            refine w_nil ?_
            refine q_then (hK239 _ _ ?_)
            refine w_cond rfl rfl (fun h242 => ?_) (fun h242 => ?_)
            ·
              exfalso
              try simp only [Bool.not_eq_true', Bool.not_eq_false', decide_eq_true_eq, decide_eq_false_iff_not, Int.not_lt, Int.not_le] at h242
              omega
            ·
              try simp only [Bool.not_eq_true', Bool.not_eq_false', decide_eq_true_eq, decide_eq_false_iff_not, Int.not_lt, Int.not_le] at h242
              refine w_skip ?_
              refine q_then (hK221 _ _ ?_)
              refine w_seq (fun K244 hK243 => ?_)
              refine w_region ?_
              refine w_pure want_none (y_loadN (vs := [_, _, _, _]) Try.isAgg26 Try.sizeOf26 hs238.drop.tail rfl rfl hbx3) rfl ?_
              refine w_pure want_none (y_move (v := .slice _ _ _) rfl rfl) rfl ?_
              refine w_call want_none Try.call40 rfl rfl rfl rfl (c40 p _ _ (by omega) _ _ y hyl hys.cons.cons.app hyr hs238) ?_
              rintro _ w246 ⟨B2, aq2, cq2, rfl, h_B2, hs247⟩
              replace hs247 := (show St _ _ (B2 ++ (B1 ++ (_ :: _ :: F))) from hs247)
              refine w_pure want_none (y_assign (v := .slice _ _ _) rfl rfl) rfl ?_
              refine w_nil ?_
              refine q_then (hK243 _ _ ?_)
              refine w_seq (fun K249 hK248 => ?_)
              have hee := enter_any hck (any_len _ y) any_in
              have hql := quay_len hee (by omega)
              have hot := truth_full hok (any_len p.farms.length y) (x := x) (d := d)
              have hfr := fullR_eq hee
              have hvr := vainR_eq hee
              have hF1 : fullR p (anyC p.farms.length y) = 1 → p.hold ≤ (trU p.farms (anyC p.farms.length y) x (p.clo + (d % (p.chi - p.clo + 1))) p.farms.length).1 := fun h => hot.1 (does_one.1 (by omega))
              have hF2 : fullR p (anyC p.farms.length y) = 2 → (trU p.farms (anyC p.farms.length y) x (p.clo + (d % (p.chi - p.clo + 1))) p.farms.length).1 < p.hold := fun h => hot.2.1 (does_two (by omega))
              have hF3 : fullR p (anyC p.farms.length y) = 1 → planE p = 0 := fun h => (plan_iff hck).2 (List.length_pos_of_mem (do_mem (any_all _ y) (does_one.1 (by omega))))
              have hq1 := Int.emod_nonneg d (show p.chi - p.clo + 1 ≠ 0 by omega)
              have hq2 := Int.emod_lt_of_pos d (show 0 < p.chi - p.clo + 1 by omega)
              refine w_region ?_
              refine w_pure want_none (y_loadN (vs := [_, _, _, _]) Try.isAgg26 Try.sizeOf26 hs247.drop.drop.tail rfl rfl hbx3) rfl ?_
              refine w_pure want_none (y_move (v := .slice _ _ _) rfl rfl) rfl ?_
              refine w_call want_none Try.call18 rfl rfl rfl rfl (c18 p _ _ (by omega) (by omega) ha.cons.cons.app.app hnm _ _ (anyC p.farms.length y) (by rw [any_len]; omega) h_B2 hs247) ?_
              rintro _ w251 ⟨B3, aq3, cq3, rfl, h_B3, hs252⟩
              replace hs252 := (show St _ _ (B3 ++ (B2 ++ (B1 ++ (_ :: _ :: F)))) from hs252)
              refine w_pure want_none (y_move (v := .tuple _) rfl rfl) rfl ?_
              refine w_pure want_none (y_extract (v := .slice _ _ _) rfl rfl rfl) rfl ?_
              refine w_pure want_none (y_extract (v := .int _ _) rfl rfl rfl) rfl ?_
              refine w_pure want_none (y_assign (v := .slice _ _ _) rfl rfl) rfl ?_
              refine w_pure want_none (y_assign (v := .int _ _) rfl rfl) rfl ?_
              refine w_nil ?_
              refine q_then (hK248 _ _ ?_)
              refine w_seq (fun K254 hK253 => ?_)
              refine w_region ?_
              refine w_pure want_none (y_loadN (vs := [_, _, _, _]) Try.isAgg26 Try.sizeOf26 hs252.drop.drop.drop.tail rfl rfl hbx3) rfl ?_
              refine w_pure want_none (y_move (v := .slice _ _ _) rfl rfl) rfl ?_
              refine w_call want_none Try.call21 rfl rfl rfl rfl (c21 p _ _ (by omega) (by omega) ha.cons.cons.app.app.app hnm _ _ (anyC p.farms.length y) (by rw [any_len]; omega) h_B2.app hs252) ?_
              rintro _ w256 ⟨rfl, hs257⟩
              refine w_pure want_none (y_move (v := .tuple _) rfl rfl) rfl ?_
              refine w_pure want_none (y_extract (v := .int _ _) rfl rfl rfl) rfl ?_
              refine w_pure want_none (y_extract (v := .int _ _) rfl rfl rfl) rfl ?_
              refine w_pure want_none (y_assign (v := .int _ _) rfl rfl) rfl ?_
              refine w_pure want_none (y_assign (v := .int _ _) rfl rfl) rfl ?_
              refine w_nil ?_
              refine q_then (hK253 _ _ ?_)
              refine w_seq (fun K259 hK258 => ?_)
              refine w_region ?_
              refine w_pure want_none (y_loadN (vs := [_, _, _, _]) Try.isAgg26 Try.sizeOf26 hs257.drop.drop.drop.tail rfl rfl hbx3) rfl ?_
              refine w_pure want_none (y_move (v := .slice _ _ _) rfl rfl) rfl ?_
              refine w_call want_none Try.call24 rfl rfl rfl rfl (c24 p _ _ (by omega) (by omega) ha.cons.cons.app.app.app hnm _ _ (anyC p.farms.length y) (by rw [any_len]; omega) h_B2.app hs257) ?_
              rintro _ w261 ⟨rfl, hs262⟩
              refine w_pure want_none (y_move (v := .tuple _) rfl rfl) rfl ?_
              refine w_pure want_none (y_extract (v := .int _ _) rfl rfl rfl) rfl ?_
              refine w_pure want_none (y_extract (v := .int _ _) rfl rfl rfl) rfl ?_
              refine w_pure want_none (y_assign (v := .int _ _) rfl rfl) rfl ?_
              refine w_pure want_none (y_assign (v := .int _ _) rfl rfl) rfl ?_
              refine w_nil ?_
              refine q_then (hK258 _ _ ?_)
              refine w_seq (fun K264 hK263 => ?_)
              refine w_region ?_
              refine w_pure want_none (y_loadN (vs := [_, _, _, _]) Try.isAgg26 Try.sizeOf26 hs262.drop.drop.drop.tail rfl rfl hbx3) rfl ?_
              refine w_pure want_none (y_move (v := .slice _ _ _) rfl rfl) rfl ?_
              refine w_pure want_none (y_loadN (vs := [_, _]) Try.isAgg48 Try.sizeOf48 hs262.drop.drop.drop rfl rfl hbx5) rfl ?_
              refine w_call want_none Try.call39 rfl rfl rfl rfl (c39 p _ _ ha.cons.cons.app.app.app hok _ _ (anyC p.farms.length y) (any_len _ _) h_B2.app any_in d hd _ _ x hxl hxs.cons.cons.app.app.app hxr hs262) ?_
              rintro _ w266 ⟨rfl, hs267⟩
              refine w_pure want_none (y_move (v := .tuple _) rfl rfl) rfl ?_
              refine w_pure want_none (y_extract (v := .int _ _) rfl rfl rfl) rfl ?_
              refine w_pure want_none (y_extract (v := .int _ _) rfl rfl rfl) rfl ?_
              refine w_pure want_none (y_extract (v := .int _ _) rfl rfl rfl) rfl ?_
              refine w_pure want_none (y_assign (v := .int _ _) rfl rfl) rfl ?_
              refine w_pure want_none (y_assign (v := .int _ _) rfl rfl) rfl ?_
              refine w_pure want_none (y_assign (v := .int _ _) rfl rfl) rfl ?_
              refine w_nil ?_
              refine q_then (hK263 _ _ ?_)
              refine w_seq (fun K269 hK268 => ?_)
              refine w_seq (fun K271 hK270 => ?_)
              refine w_region ?_
              refine w_pure want_none (y_move (v := .int _ _) rfl rfl) rfl ?_
              refine w_pure want_none (y_neq rfl rfl rfl rfl) rfl ?_
              refine w_pure want_none (y_move (v := .bool _) rfl rfl) rfl ?_
              refine w_split (fun h272 => ?_) (fun h272 => ?_)
              ·
                exfalso
                try simp only [Bool.not_eq_true', Bool.not_eq_false', decide_eq_true_eq, decide_eq_false_iff_not, Int.not_lt, Int.not_le] at h272
                omega
              ·
                try simp only [Bool.not_eq_true', Bool.not_eq_false', decide_eq_true_eq, decide_eq_false_iff_not, Int.not_lt, Int.not_le] at h272
                refine w_pure (want_yes rfl rfl rfl) (y_move (v := .int _ _) rfl rfl) rfl ?_
                refine w_pure (want_yes rfl rfl rfl) (y_neq rfl rfl rfl rfl) rfl ?_
                refine w_pure want_none (y_pickF (v := .bool _) rfl rfl rfl rfl) rfl ?_
                refine w_pure want_none (y_move (v := .bool _) rfl rfl) rfl ?_
                refine w_split (fun h273 => ?_) (fun h273 => ?_)
                ·
                  exfalso
                  try simp only [Bool.not_eq_true', Bool.not_eq_false', decide_eq_true_eq, decide_eq_false_iff_not, Int.not_lt, Int.not_le] at h273
                  omega
                ·
                  try simp only [Bool.not_eq_true', Bool.not_eq_false', decide_eq_true_eq, decide_eq_false_iff_not, Int.not_lt, Int.not_le] at h273
                  refine w_pure (want_yes rfl rfl rfl) (y_move (v := .int _ _) rfl rfl) rfl ?_
                  refine w_pure (want_yes rfl rfl rfl) (y_neq rfl rfl rfl rfl) rfl ?_
                  refine w_pure want_none (y_pickF (v := .bool _) rfl rfl rfl rfl) rfl ?_
                  refine w_pure want_none (y_move (v := .bool _) rfl rfl) rfl ?_
                  refine w_split (fun h274 => ?_) (fun h274 => ?_)
                  ·
                    exfalso
                    try simp only [Bool.not_eq_true', Bool.not_eq_false', decide_eq_true_eq, decide_eq_false_iff_not, Int.not_lt, Int.not_le] at h274
                    omega
                  ·
                    try simp only [Bool.not_eq_true', Bool.not_eq_false', decide_eq_true_eq, decide_eq_false_iff_not, Int.not_lt, Int.not_le] at h274
                    refine w_pure (want_yes rfl rfl rfl) (y_move (v := .slice _ _ _) rfl rfl) rfl ?_
                    refine w_pure (want_yes rfl rfl rfl) (y_lenS Try.underlying31 rfl rfl) rfl ?_
                    refine w_pure (want_yes rfl rfl rfl) (y_fieldAddr (o := 1) (i := 1) Try.underlying26 rfl Try.sizeOf23 rfl rfl rfl) rfl ?_
                    refine w_pure (want_yes rfl rfl rfl) (y_fieldAddr (o := 1) (i := 1) Try.underlying23 rfl Try.sizeOf3 rfl rfl rfl) rfl ?_
                    refine w_pure (want_yes rfl rfl rfl) (y_load1 Try.isAgg3 hs267.drop.drop.drop.tail rfl rfl (show Ats _ _ _ _ [_] from Ats.part hbx3 2 1)) rfl ?_
                    refine w_pure (want_yes rfl rfl rfl) (y_fieldAddr (o := 1) (i := 1) Try.underlying26 rfl Try.sizeOf23 rfl rfl rfl) rfl ?_
                    refine w_pure (want_yes rfl rfl rfl) (y_fieldAddr (o := 0) (i := 0) Try.underlying23 rfl Try.sizeOf3 rfl rfl rfl) rfl ?_
                    refine w_pure (want_yes rfl rfl rfl) (y_load1 Try.isAgg3 hs267.drop.drop.drop.tail rfl rfl (show Ats _ _ _ _ [_] from Ats.part hbx3 1 1)) rfl ?_
                    refine w_pure (want_yes rfl rfl rfl) (y_sub rfl rfl rfl rfl (by omega) (by omega)) rfl ?_
                    refine w_pure (want_yes rfl rfl rfl) (y_add rfl rfl rfl rfl (by omega) (by omega)) rfl ?_
                    refine w_pure (want_yes rfl rfl rfl) (y_neq rfl rfl rfl rfl) rfl ?_
                    refine w_pure want_none (y_pickF (v := .bool _) rfl rfl rfl rfl) rfl ?_
                    refine w_pure want_none (y_move (v := .bool _) rfl rfl) rfl ?_
                    refine w_split (fun h275 => ?_) (fun h275 => ?_)
                    ·
                      exfalso
                      try simp only [Bool.not_eq_true', Bool.not_eq_false', decide_eq_true_eq, decide_eq_false_iff_not, Int.not_lt, Int.not_le] at h275
                      omega
                    ·
                      try simp only [Bool.not_eq_true', Bool.not_eq_false', decide_eq_true_eq, decide_eq_false_iff_not, Int.not_lt, Int.not_le] at h275
                      refine w_pure (want_yes rfl rfl rfl) (y_move (v := .int _ _) rfl rfl) rfl ?_
                      refine w_pure (want_yes rfl rfl rfl) (y_move (v := .slice _ _ _) rfl rfl) rfl ?_
                      refine w_pure (want_yes rfl rfl rfl) (y_move (v := .int _ _) rfl rfl) rfl ?_
                      have hqi : ((d % (p.chi - p.clo + 1))).toNat < (quayR p (anyC p.farms.length y)).length := by omega
                      obtain ⟨bs, os, rfl, hsp⟩ := sl_spans h_B3 hqi
                      replace hsp := hsp.2
                      rw [quay_get hee hqi, Int.toNat_of_nonneg hq1] at hsp
                      refine w_pure (want_yes rfl rfl rfl) (y_indexS Try.underlying31 Try.sizeOf23 rfl rfl rfl rfl (i := ((d % (p.chi - p.clo + 1))).toNat) (by omega) (by omega)) rfl ?_
                      refine w_pure (want_yes rfl rfl rfl) (y_loadN (vs := [_, _]) Try.isAgg23 Try.sizeOf23 hs267 rfl rfl hsp) rfl ?_
                      refine w_call (want_yes rfl rfl rfl) Try.call41 rfl rfl rfl rfl (c41 _ _ _ hs267) ?_
                      rintro _ w277 ⟨rfl, hs278⟩
                      refine w_pure (want_yes rfl rfl rfl) (y_not rfl rfl) rfl ?_
                      refine w_pure want_none (y_pickF (v := .bool _) rfl rfl rfl rfl) rfl ?_
                      refine w_pure want_none (y_move (v := .bool _) rfl rfl) rfl ?_
                      refine w_split (fun h279 => ?_) (fun h279 => ?_)
                      ·
                        exfalso
                        try simp only [Bool.not_eq_true', Bool.not_eq_false', decide_eq_true_eq, decide_eq_false_iff_not, Int.not_lt, Int.not_le] at h279
                        omega
                      ·
                        try simp only [Bool.not_eq_true', Bool.not_eq_false', decide_eq_true_eq, decide_eq_false_iff_not, Int.not_lt, Int.not_le] at h279
                        refine w_pure (want_yes rfl rfl rfl) (y_move (v := .int _ _) rfl rfl) rfl ?_
                        refine w_pure (want_yes rfl rfl rfl) (y_move (v := .int _ _) rfl rfl) rfl ?_
                        refine w_pure (want_yes rfl rfl rfl) (y_gtr rfl rfl rfl rfl) rfl ?_
                        refine w_pure want_none (y_pickF (v := .bool _) rfl rfl rfl rfl) rfl ?_
                        refine w_nil ?_
                        refine q_then (hK270 _ _ ?_)
                        refine w_cond rfl rfl (fun h280 => ?_) (fun h280 => ?_)
                        ·
                          exfalso
                          try simp only [Bool.not_eq_true', Bool.not_eq_false', decide_eq_true_eq, decide_eq_false_iff_not, Int.not_lt, Int.not_le] at h280
                          omega
                        ·
                          try simp only [Bool.not_eq_true', Bool.not_eq_false', decide_eq_true_eq, decide_eq_false_iff_not, Int.not_lt, Int.not_le] at h280
                          refine w_skip ?_
                          refine q_then (hK268 _ _ ?_)
                          refine w_seq (fun K282 hK281 => ?_)
                          refine w_region ?_
                          refine w_pure want_none (y_move (v := .int _ _) rfl rfl) rfl ?_
                          refine w_pure want_none (y_fieldAddr (o := 0) (i := 0) Try.underlying26 rfl Try.sizeOf3 rfl rfl rfl) rfl ?_
                          refine w_pure want_none (y_load1 Try.isAgg3 hs278.drop.drop.drop.tail rfl rfl (show Ats _ _ _ _ [_] from Ats.part hbx3 0 1)) rfl ?_
                          refine w_pure want_none (y_geq rfl rfl rfl rfl) rfl ?_
                          refine w_pure want_none (y_assign (v := .bool _) rfl rfl) rfl ?_
                          refine w_nil ?_
                          refine q_then (hK281 _ _ ?_)
                          refine w_seq (fun K284 hK283 => ?_)
                          refine w_region ?_
                          refine w_pure want_none (y_move (v := .int _ _) rfl rfl) rfl ?_
                          refine w_pure want_none (y_neq rfl rfl rfl rfl) rfl ?_
                          refine w_pure want_none (y_move (v := .bool _) rfl rfl) rfl ?_
                          refine w_split (fun h285 => ?_) (fun h285 => ?_)
                          ·
                            try simp only [Bool.not_eq_true', Bool.not_eq_false', decide_eq_true_eq, decide_eq_false_iff_not, Int.not_lt, Int.not_le] at h285
                            refine w_skipop rfl rfl rfl ?_
                            refine w_pure want_none (y_pickT (v := _) rfl rfl rfl rfl) rfl ?_
                            refine w_pure want_none (y_move (v := .bool _) rfl rfl) rfl ?_
                            refine w_pure (want_yes rfl rfl rfl) (y_move (v := .int _ _) rfl rfl) rfl ?_
                            refine w_pure (want_yes rfl rfl rfl) (y_neq rfl rfl rfl rfl) rfl ?_
                            refine w_pure (want_yes rfl rfl rfl) (y_move (v := .bool _) rfl rfl) rfl ?_
                            refine w_split (fun h286 => ?_) (fun h286 => ?_)
                            ·
                              try simp only [Bool.not_eq_true', Bool.not_eq_false', decide_eq_true_eq, decide_eq_false_iff_not, Int.not_lt, Int.not_le] at h286
                              refine w_skipop rfl rfl rfl ?_
                              refine w_skipop rfl rfl rfl ?_
                              refine w_pure (want_yes rfl rfl rfl) (y_pickT (v := _) rfl rfl rfl rfl) rfl ?_
                              refine w_pure want_none (y_pickT (v := .bool _) rfl rfl rfl rfl) rfl ?_
                              refine w_pure want_none (y_move (v := .bool _) rfl rfl) rfl ?_
                              refine w_pure (want_yes rfl rfl rfl) (y_move (v := .int _ _) rfl rfl) rfl ?_
                              refine w_pure (want_yes rfl rfl rfl) (y_neq rfl rfl rfl rfl) rfl ?_
                              refine w_pure (want_yes rfl rfl rfl) (y_move (v := .bool _) rfl rfl) rfl ?_
                              refine w_split (fun h287 => ?_) (fun h287 => ?_)
                              ·
                                try simp only [Bool.not_eq_true', Bool.not_eq_false', decide_eq_true_eq, decide_eq_false_iff_not, Int.not_lt, Int.not_le] at h287
                                refine w_skipop rfl rfl rfl ?_
                                refine w_skipop rfl rfl rfl ?_
                                refine w_pure (want_yes rfl rfl rfl) (y_pickT (v := _) rfl rfl rfl rfl) rfl ?_
                                refine w_pure want_none (y_pickT (v := .bool _) rfl rfl rfl rfl) rfl ?_
                                refine w_pure want_none (y_move (v := .bool _) rfl rfl) rfl ?_
                                refine w_call (want_yes rfl rfl rfl) Try.call23 rfl rfl rfl rfl (c23 hs278) ?_
                                rintro _ w289 ⟨rfl, hs290⟩
                                refine w_pure want_none (y_pickT (v := .bool _) rfl rfl rfl rfl) rfl ?_
                                refine w_pure want_none (y_assign (v := .bool _) rfl rfl) rfl ?_
                                refine w_nil ?_
                                refine q_then (hK283 _ _ ?_)
                                refine w_ret ?_
                                refine q_ret (l := [.tmp 6]) (vs := [_]) rfl ⟨⟨rfl, show _ = (.bool _ : Value) from rfl⟩, trivial⟩ ?_
                                exact ⟨rfl, hs290.drop.drop.drop.tail.tail⟩
                              ·
                                try simp only [Bool.not_eq_true', Bool.not_eq_false', decide_eq_true_eq, decide_eq_false_iff_not, Int.not_lt, Int.not_le] at h287
                                refine w_pure (want_yes rfl rfl rfl) (y_move (v := .int _ _) rfl rfl) rfl ?_
                                refine w_pure (want_yes rfl rfl rfl) (y_eql rfl rfl rfl rfl) rfl ?_
                                refine w_pure (want_yes rfl rfl rfl) (y_pickF (v := .bool _) rfl rfl rfl rfl) rfl ?_
                                refine w_pure want_none (y_pickT (v := .bool _) rfl rfl rfl rfl) rfl ?_
                                refine w_pure want_none (y_move (v := .bool _) rfl rfl) rfl ?_
                                refine w_split (fun h291 => ?_) (fun h291 => ?_)
                                ·
                                  try simp only [Bool.not_eq_true', Bool.not_eq_false', decide_eq_true_eq, decide_eq_false_iff_not, Int.not_lt, Int.not_le] at h291
                                  refine w_call (want_yes rfl rfl rfl) Try.call23 rfl rfl rfl rfl (c23 hs278) ?_
                                  rintro _ w293 ⟨rfl, hs294⟩
                                  refine w_pure want_none (y_pickT (v := .bool _) rfl rfl rfl rfl) rfl ?_
                                  refine w_pure want_none (y_assign (v := .bool _) rfl rfl) rfl ?_
                                  refine w_nil ?_
                                  refine q_then (hK283 _ _ ?_)
                                  refine w_ret ?_
                                  refine q_ret (l := [.tmp 6]) (vs := [_]) rfl ⟨⟨rfl, show _ = (.bool _ : Value) from rfl⟩, trivial⟩ ?_
                                  exact ⟨rfl, hs294.drop.drop.drop.tail.tail⟩
                                ·
                                  exfalso
                                  try simp only [Bool.not_eq_true', Bool.not_eq_false', decide_eq_true_eq, decide_eq_false_iff_not, Int.not_lt, Int.not_le] at h291
                                  omega
                            ·
                              try simp only [Bool.not_eq_true', Bool.not_eq_false', decide_eq_true_eq, decide_eq_false_iff_not, Int.not_lt, Int.not_le] at h286
                              refine w_pure (want_yes rfl rfl rfl) (y_move (v := .bool _) rfl rfl) rfl ?_
                              refine w_pure (want_yes rfl rfl rfl) (y_not rfl rfl) rfl ?_
                              refine w_pure (want_yes rfl rfl rfl) (y_pickF (v := .bool _) rfl rfl rfl rfl) rfl ?_
                              refine w_pure want_none (y_pickT (v := .bool _) rfl rfl rfl rfl) rfl ?_
                              refine w_pure want_none (y_move (v := .bool _) rfl rfl) rfl ?_
                              refine w_split (fun h295 => ?_) (fun h295 => ?_)
                              ·
                                try simp only [Bool.not_eq_true', Bool.not_eq_false', decide_eq_true_eq, decide_eq_false_iff_not, Int.not_lt, Int.not_le] at h295
                                refine w_pure (want_yes rfl rfl rfl) (y_move (v := .int _ _) rfl rfl) rfl ?_
                                refine w_pure (want_yes rfl rfl rfl) (y_neq rfl rfl rfl rfl) rfl ?_
                                refine w_pure (want_yes rfl rfl rfl) (y_move (v := .bool _) rfl rfl) rfl ?_
                                refine w_split (fun h296 => ?_) (fun h296 => ?_)
                                ·
                                  try simp only [Bool.not_eq_true', Bool.not_eq_false', decide_eq_true_eq, decide_eq_false_iff_not, Int.not_lt, Int.not_le] at h296
                                  refine w_skipop rfl rfl rfl ?_
                                  refine w_skipop rfl rfl rfl ?_
                                  refine w_pure (want_yes rfl rfl rfl) (y_pickT (v := _) rfl rfl rfl rfl) rfl ?_
                                  refine w_pure want_none (y_pickT (v := .bool _) rfl rfl rfl rfl) rfl ?_
                                  refine w_pure want_none (y_move (v := .bool _) rfl rfl) rfl ?_
                                  refine w_call (want_yes rfl rfl rfl) Try.call23 rfl rfl rfl rfl (c23 hs278) ?_
                                  rintro _ w298 ⟨rfl, hs299⟩
                                  refine w_pure want_none (y_pickT (v := .bool _) rfl rfl rfl rfl) rfl ?_
                                  refine w_pure want_none (y_assign (v := .bool _) rfl rfl) rfl ?_
                                  refine w_nil ?_
                                  refine q_then (hK283 _ _ ?_)
                                  refine w_ret ?_
                                  refine q_ret (l := [.tmp 6]) (vs := [_]) rfl ⟨⟨rfl, show _ = (.bool _ : Value) from rfl⟩, trivial⟩ ?_
                                  exact ⟨rfl, hs299.drop.drop.drop.tail.tail⟩
                                ·
                                  try simp only [Bool.not_eq_true', Bool.not_eq_false', decide_eq_true_eq, decide_eq_false_iff_not, Int.not_lt, Int.not_le] at h296
                                  refine w_pure (want_yes rfl rfl rfl) (y_move (v := .int _ _) rfl rfl) rfl ?_
                                  refine w_pure (want_yes rfl rfl rfl) (y_eql rfl rfl rfl rfl) rfl ?_
                                  refine w_pure (want_yes rfl rfl rfl) (y_pickF (v := .bool _) rfl rfl rfl rfl) rfl ?_
                                  refine w_pure want_none (y_pickT (v := .bool _) rfl rfl rfl rfl) rfl ?_
                                  refine w_pure want_none (y_move (v := .bool _) rfl rfl) rfl ?_
                                  refine w_split (fun h300 => ?_) (fun h300 => ?_)
                                  ·
                                    try simp only [Bool.not_eq_true', Bool.not_eq_false', decide_eq_true_eq, decide_eq_false_iff_not, Int.not_lt, Int.not_le] at h300
                                    refine w_call (want_yes rfl rfl rfl) Try.call23 rfl rfl rfl rfl (c23 hs278) ?_
                                    rintro _ w302 ⟨rfl, hs303⟩
                                    refine w_pure want_none (y_pickT (v := .bool _) rfl rfl rfl rfl) rfl ?_
                                    refine w_pure want_none (y_assign (v := .bool _) rfl rfl) rfl ?_
                                    refine w_nil ?_
                                    refine q_then (hK283 _ _ ?_)
                                    refine w_ret ?_
                                    refine q_ret (l := [.tmp 6]) (vs := [_]) rfl ⟨⟨rfl, show _ = (.bool _ : Value) from rfl⟩, trivial⟩ ?_
                                    exact ⟨rfl, hs303.drop.drop.drop.tail.tail⟩
                                  ·
                                    exfalso
                                    try simp only [Bool.not_eq_true', Bool.not_eq_false', decide_eq_true_eq, decide_eq_false_iff_not, Int.not_lt, Int.not_le] at h300
                                    omega
                              ·
                                exfalso
                                try simp only [Bool.not_eq_true', Bool.not_eq_false', decide_eq_true_eq, decide_eq_false_iff_not, Int.not_lt, Int.not_le] at h295
                                omega
                          ·
                            try simp only [Bool.not_eq_true', Bool.not_eq_false', decide_eq_true_eq, decide_eq_false_iff_not, Int.not_lt, Int.not_le] at h285
                            refine w_pure (want_yes rfl rfl rfl) (y_move (v := .bool _) rfl rfl) rfl ?_
                            refine w_pure want_none (y_pickF (v := .bool _) rfl rfl rfl rfl) rfl ?_
                            refine w_pure want_none (y_move (v := .bool _) rfl rfl) rfl ?_
                            refine w_split (fun h304 => ?_) (fun h304 => ?_)
                            ·
                              try simp only [Bool.not_eq_true', Bool.not_eq_false', decide_eq_true_eq, decide_eq_false_iff_not, Int.not_lt, Int.not_le] at h304
                              refine w_pure (want_yes rfl rfl rfl) (y_move (v := .int _ _) rfl rfl) rfl ?_
                              refine w_pure (want_yes rfl rfl rfl) (y_neq rfl rfl rfl rfl) rfl ?_
                              refine w_pure (want_yes rfl rfl rfl) (y_move (v := .bool _) rfl rfl) rfl ?_
                              refine w_split (fun h305 => ?_) (fun h305 => ?_)
                              ·
                                try simp only [Bool.not_eq_true', Bool.not_eq_false', decide_eq_true_eq, decide_eq_false_iff_not, Int.not_lt, Int.not_le] at h305
                                refine w_skipop rfl rfl rfl ?_
                                refine w_skipop rfl rfl rfl ?_
                                refine w_pure (want_yes rfl rfl rfl) (y_pickT (v := _) rfl rfl rfl rfl) rfl ?_
                                refine w_pure want_none (y_pickT (v := .bool _) rfl rfl rfl rfl) rfl ?_
                                refine w_pure want_none (y_move (v := .bool _) rfl rfl) rfl ?_
                                refine w_pure (want_yes rfl rfl rfl) (y_move (v := .int _ _) rfl rfl) rfl ?_
                                refine w_pure (want_yes rfl rfl rfl) (y_neq rfl rfl rfl rfl) rfl ?_
                                refine w_pure (want_yes rfl rfl rfl) (y_move (v := .bool _) rfl rfl) rfl ?_
                                refine w_split (fun h306 => ?_) (fun h306 => ?_)
                                ·
                                  try simp only [Bool.not_eq_true', Bool.not_eq_false', decide_eq_true_eq, decide_eq_false_iff_not, Int.not_lt, Int.not_le] at h306
                                  refine w_skipop rfl rfl rfl ?_
                                  refine w_skipop rfl rfl rfl ?_
                                  refine w_pure (want_yes rfl rfl rfl) (y_pickT (v := _) rfl rfl rfl rfl) rfl ?_
                                  refine w_pure want_none (y_pickT (v := .bool _) rfl rfl rfl rfl) rfl ?_
                                  refine w_pure want_none (y_move (v := .bool _) rfl rfl) rfl ?_
                                  refine w_call (want_yes rfl rfl rfl) Try.call23 rfl rfl rfl rfl (c23 hs278) ?_
                                  rintro _ w308 ⟨rfl, hs309⟩
                                  refine w_pure want_none (y_pickT (v := .bool _) rfl rfl rfl rfl) rfl ?_
                                  refine w_pure want_none (y_assign (v := .bool _) rfl rfl) rfl ?_
                                  refine w_nil ?_
                                  refine q_then (hK283 _ _ ?_)
                                  refine w_ret ?_
                                  refine q_ret (l := [.tmp 6]) (vs := [_]) rfl ⟨⟨rfl, show _ = (.bool _ : Value) from rfl⟩, trivial⟩ ?_
                                  exact ⟨rfl, hs309.drop.drop.drop.tail.tail⟩
                                ·
                                  try simp only [Bool.not_eq_true', Bool.not_eq_false', decide_eq_true_eq, decide_eq_false_iff_not, Int.not_lt, Int.not_le] at h306
                                  refine w_pure (want_yes rfl rfl rfl) (y_move (v := .int _ _) rfl rfl) rfl ?_
                                  refine w_pure (want_yes rfl rfl rfl) (y_eql rfl rfl rfl rfl) rfl ?_
                                  refine w_pure (want_yes rfl rfl rfl) (y_pickF (v := .bool _) rfl rfl rfl rfl) rfl ?_
                                  refine w_pure want_none (y_pickT (v := .bool _) rfl rfl rfl rfl) rfl ?_
                                  refine w_pure want_none (y_move (v := .bool _) rfl rfl) rfl ?_
                                  refine w_split (fun h310 => ?_) (fun h310 => ?_)
                                  ·
                                    try simp only [Bool.not_eq_true', Bool.not_eq_false', decide_eq_true_eq, decide_eq_false_iff_not, Int.not_lt, Int.not_le] at h310
                                    refine w_call (want_yes rfl rfl rfl) Try.call23 rfl rfl rfl rfl (c23 hs278) ?_
                                    rintro _ w312 ⟨rfl, hs313⟩
                                    refine w_pure want_none (y_pickT (v := .bool _) rfl rfl rfl rfl) rfl ?_
                                    refine w_pure want_none (y_assign (v := .bool _) rfl rfl) rfl ?_
                                    refine w_nil ?_
                                    refine q_then (hK283 _ _ ?_)
                                    refine w_ret ?_
                                    refine q_ret (l := [.tmp 6]) (vs := [_]) rfl ⟨⟨rfl, show _ = (.bool _ : Value) from rfl⟩, trivial⟩ ?_
                                    exact ⟨rfl, hs313.drop.drop.drop.tail.tail⟩
                                  ·
                                    exfalso
                                    try simp only [Bool.not_eq_true', Bool.not_eq_false', decide_eq_true_eq, decide_eq_false_iff_not, Int.not_lt, Int.not_le] at h310
                                    omega
                              ·
                                try simp only [Bool.not_eq_true', Bool.not_eq_false', decide_eq_true_eq, decide_eq_false_iff_not, Int.not_lt, Int.not_le] at h305
                                refine w_pure (want_yes rfl rfl rfl) (y_move (v := .bool _) rfl rfl) rfl ?_
                                refine w_pure (want_yes rfl rfl rfl) (y_not rfl rfl) rfl ?_
                                refine w_pure (want_yes rfl rfl rfl) (y_pickF (v := .bool _) rfl rfl rfl rfl) rfl ?_
                                refine w_pure want_none (y_pickT (v := .bool _) rfl rfl rfl rfl) rfl ?_
                                refine w_pure want_none (y_move (v := .bool _) rfl rfl) rfl ?_
                                refine w_split (fun h314 => ?_) (fun h314 => ?_)
                                ·
                                  try simp only [Bool.not_eq_true', Bool.not_eq_false', decide_eq_true_eq, decide_eq_false_iff_not, Int.not_lt, Int.not_le] at h314
                                  refine w_pure (want_yes rfl rfl rfl) (y_move (v := .int _ _) rfl rfl) rfl ?_
                                  refine w_pure (want_yes rfl rfl rfl) (y_neq rfl rfl rfl rfl) rfl ?_
                                  refine w_pure (want_yes rfl rfl rfl) (y_move (v := .bool _) rfl rfl) rfl ?_
                                  refine w_split (fun h315 => ?_) (fun h315 => ?_)
                                  ·
                                    try simp only [Bool.not_eq_true', Bool.not_eq_false', decide_eq_true_eq, decide_eq_false_iff_not, Int.not_lt, Int.not_le] at h315
                                    refine w_skipop rfl rfl rfl ?_
                                    refine w_skipop rfl rfl rfl ?_
                                    refine w_pure (want_yes rfl rfl rfl) (y_pickT (v := _) rfl rfl rfl rfl) rfl ?_
                                    refine w_pure want_none (y_pickT (v := .bool _) rfl rfl rfl rfl) rfl ?_
                                    refine w_pure want_none (y_move (v := .bool _) rfl rfl) rfl ?_
                                    refine w_call (want_yes rfl rfl rfl) Try.call23 rfl rfl rfl rfl (c23 hs278) ?_
                                    rintro _ w317 ⟨rfl, hs318⟩
                                    refine w_pure want_none (y_pickT (v := .bool _) rfl rfl rfl rfl) rfl ?_
                                    refine w_pure want_none (y_assign (v := .bool _) rfl rfl) rfl ?_
                                    refine w_nil ?_
                                    refine q_then (hK283 _ _ ?_)
                                    refine w_ret ?_
                                    refine q_ret (l := [.tmp 6]) (vs := [_]) rfl ⟨⟨rfl, show _ = (.bool _ : Value) from rfl⟩, trivial⟩ ?_
                                    exact ⟨rfl, hs318.drop.drop.drop.tail.tail⟩
                                  ·
                                    try simp only [Bool.not_eq_true', Bool.not_eq_false', decide_eq_true_eq, decide_eq_false_iff_not, Int.not_lt, Int.not_le] at h315
                                    refine w_pure (want_yes rfl rfl rfl) (y_move (v := .int _ _) rfl rfl) rfl ?_
                                    refine w_pure (want_yes rfl rfl rfl) (y_eql rfl rfl rfl rfl) rfl ?_
                                    refine w_pure (want_yes rfl rfl rfl) (y_pickF (v := .bool _) rfl rfl rfl rfl) rfl ?_
                                    refine w_pure want_none (y_pickT (v := .bool _) rfl rfl rfl rfl) rfl ?_
                                    refine w_pure want_none (y_move (v := .bool _) rfl rfl) rfl ?_
                                    refine w_split (fun h319 => ?_) (fun h319 => ?_)
                                    ·
                                      try simp only [Bool.not_eq_true', Bool.not_eq_false', decide_eq_true_eq, decide_eq_false_iff_not, Int.not_lt, Int.not_le] at h319
                                      refine w_call (want_yes rfl rfl rfl) Try.call23 rfl rfl rfl rfl (c23 hs278) ?_
                                      rintro _ w321 ⟨rfl, hs322⟩
                                      refine w_pure want_none (y_pickT (v := .bool _) rfl rfl rfl rfl) rfl ?_
                                      refine w_pure want_none (y_assign (v := .bool _) rfl rfl) rfl ?_
                                      refine w_nil ?_
                                      refine q_then (hK283 _ _ ?_)
                                      refine w_ret ?_
                                      refine q_ret (l := [.tmp 6]) (vs := [_]) rfl ⟨⟨rfl, show _ = (.bool _ : Value) from rfl⟩, trivial⟩ ?_
                                      exact ⟨rfl, hs322.drop.drop.drop.tail.tail⟩
                                    ·
                                      exfalso
                                      try simp only [Bool.not_eq_true', Bool.not_eq_false', decide_eq_true_eq, decide_eq_false_iff_not, Int.not_lt, Int.not_le] at h319
                                      omega
                                ·
                                  exfalso
                                  try simp only [Bool.not_eq_true', Bool.not_eq_false', decide_eq_true_eq, decide_eq_false_iff_not, Int.not_lt, Int.not_le] at h314
                                  omega
                            ·
                              exfalso
                              try simp only [Bool.not_eq_true', Bool.not_eq_false', decide_eq_true_eq, decide_eq_false_iff_not, Int.not_lt, Int.not_le] at h304
                              omega
      ·
        try simp only [Bool.not_eq_true', Bool.not_eq_false', decide_eq_true_eq, decide_eq_false_iff_not, Int.not_lt, Int.not_le] at h225
        refine w_skip ?_
        refine q_then (hK221 _ _ ?_)
        refine w_seq (fun K324 hK323 => ?_)
        refine w_region ?_
        refine w_pure want_none (y_loadN (vs := [_, _, _, _]) Try.isAgg26 Try.sizeOf26 hs32.drop.tail rfl rfl hbx3) rfl ?_
        refine w_pure want_none (y_move (v := .slice _ _ _) rfl rfl) rfl ?_
        refine w_call want_none Try.call40 rfl rfl rfl rfl (c40 p _ _ (by omega) _ _ y hyl hys.cons.cons.app hyr hs32) ?_
        rintro _ w326 ⟨B2, aq2, cq2, rfl, h_B2, hs327⟩
        replace hs327 := (show St _ _ (B2 ++ (B1 ++ (_ :: _ :: F))) from hs327)
        refine w_pure want_none (y_assign (v := .slice _ _ _) rfl rfl) rfl ?_
        refine w_nil ?_
        refine q_then (hK323 _ _ ?_)
        refine w_seq (fun K329 hK328 => ?_)
        have hee := enter_any hck (any_len _ y) any_in
        have hql := quay_len hee (by omega)
        have hot := truth_full hok (any_len p.farms.length y) (x := x) (d := d)
        have hfr := fullR_eq hee
        have hvr := vainR_eq hee
        have hF1 : fullR p (anyC p.farms.length y) = 1 → p.hold ≤ (trU p.farms (anyC p.farms.length y) x (p.clo + (d % (p.chi - p.clo + 1))) p.farms.length).1 := fun h => hot.1 (does_one.1 (by omega))
        have hF2 : fullR p (anyC p.farms.length y) = 2 → (trU p.farms (anyC p.farms.length y) x (p.clo + (d % (p.chi - p.clo + 1))) p.farms.length).1 < p.hold := fun h => hot.2.1 (does_two (by omega))
        have hF3 : fullR p (anyC p.farms.length y) = 1 → planE p = 0 := fun h => (plan_iff hck).2 (List.length_pos_of_mem (do_mem (any_all _ y) (does_one.1 (by omega))))
        have hq1 := Int.emod_nonneg d (show p.chi - p.clo + 1 ≠ 0 by omega)
        have hq2 := Int.emod_lt_of_pos d (show 0 < p.chi - p.clo + 1 by omega)
        refine w_region ?_
        refine w_pure want_none (y_loadN (vs := [_, _, _, _]) Try.isAgg26 Try.sizeOf26 hs327.drop.drop.tail rfl rfl hbx3) rfl ?_
        refine w_pure want_none (y_move (v := .slice _ _ _) rfl rfl) rfl ?_
        refine w_call want_none Try.call18 rfl rfl rfl rfl (c18 p _ _ (by omega) (by omega) ha.cons.cons.app.app hnm _ _ (anyC p.farms.length y) (by rw [any_len]; omega) h_B2 hs327) ?_
        rintro _ w331 ⟨B3, aq3, cq3, rfl, h_B3, hs332⟩
        replace hs332 := (show St _ _ (B3 ++ (B2 ++ (B1 ++ (_ :: _ :: F)))) from hs332)
        refine w_pure want_none (y_move (v := .tuple _) rfl rfl) rfl ?_
        refine w_pure want_none (y_extract (v := .slice _ _ _) rfl rfl rfl) rfl ?_
        refine w_pure want_none (y_extract (v := .int _ _) rfl rfl rfl) rfl ?_
        refine w_pure want_none (y_assign (v := .slice _ _ _) rfl rfl) rfl ?_
        refine w_pure want_none (y_assign (v := .int _ _) rfl rfl) rfl ?_
        refine w_nil ?_
        refine q_then (hK328 _ _ ?_)
        refine w_seq (fun K334 hK333 => ?_)
        refine w_region ?_
        refine w_pure want_none (y_loadN (vs := [_, _, _, _]) Try.isAgg26 Try.sizeOf26 hs332.drop.drop.drop.tail rfl rfl hbx3) rfl ?_
        refine w_pure want_none (y_move (v := .slice _ _ _) rfl rfl) rfl ?_
        refine w_call want_none Try.call21 rfl rfl rfl rfl (c21 p _ _ (by omega) (by omega) ha.cons.cons.app.app.app hnm _ _ (anyC p.farms.length y) (by rw [any_len]; omega) h_B2.app hs332) ?_
        rintro _ w336 ⟨rfl, hs337⟩
        refine w_pure want_none (y_move (v := .tuple _) rfl rfl) rfl ?_
        refine w_pure want_none (y_extract (v := .int _ _) rfl rfl rfl) rfl ?_
        refine w_pure want_none (y_extract (v := .int _ _) rfl rfl rfl) rfl ?_
        refine w_pure want_none (y_assign (v := .int _ _) rfl rfl) rfl ?_
        refine w_pure want_none (y_assign (v := .int _ _) rfl rfl) rfl ?_
        refine w_nil ?_
        refine q_then (hK333 _ _ ?_)
        refine w_seq (fun K339 hK338 => ?_)
        refine w_region ?_
        refine w_pure want_none (y_loadN (vs := [_, _, _, _]) Try.isAgg26 Try.sizeOf26 hs337.drop.drop.drop.tail rfl rfl hbx3) rfl ?_
        refine w_pure want_none (y_move (v := .slice _ _ _) rfl rfl) rfl ?_
        refine w_call want_none Try.call24 rfl rfl rfl rfl (c24 p _ _ (by omega) (by omega) ha.cons.cons.app.app.app hnm _ _ (anyC p.farms.length y) (by rw [any_len]; omega) h_B2.app hs337) ?_
        rintro _ w341 ⟨rfl, hs342⟩
        refine w_pure want_none (y_move (v := .tuple _) rfl rfl) rfl ?_
        refine w_pure want_none (y_extract (v := .int _ _) rfl rfl rfl) rfl ?_
        refine w_pure want_none (y_extract (v := .int _ _) rfl rfl rfl) rfl ?_
        refine w_pure want_none (y_assign (v := .int _ _) rfl rfl) rfl ?_
        refine w_pure want_none (y_assign (v := .int _ _) rfl rfl) rfl ?_
        refine w_nil ?_
        refine q_then (hK338 _ _ ?_)
        refine w_seq (fun K344 hK343 => ?_)
        refine w_region ?_
        refine w_pure want_none (y_loadN (vs := [_, _, _, _]) Try.isAgg26 Try.sizeOf26 hs342.drop.drop.drop.tail rfl rfl hbx3) rfl ?_
        refine w_pure want_none (y_move (v := .slice _ _ _) rfl rfl) rfl ?_
        refine w_pure want_none (y_loadN (vs := [_, _]) Try.isAgg48 Try.sizeOf48 hs342.drop.drop.drop rfl rfl hbx5) rfl ?_
        refine w_call want_none Try.call39 rfl rfl rfl rfl (c39 p _ _ ha.cons.cons.app.app.app hok _ _ (anyC p.farms.length y) (any_len _ _) h_B2.app any_in d hd _ _ x hxl hxs.cons.cons.app.app.app hxr hs342) ?_
        rintro _ w346 ⟨rfl, hs347⟩
        refine w_pure want_none (y_move (v := .tuple _) rfl rfl) rfl ?_
        refine w_pure want_none (y_extract (v := .int _ _) rfl rfl rfl) rfl ?_
        refine w_pure want_none (y_extract (v := .int _ _) rfl rfl rfl) rfl ?_
        refine w_pure want_none (y_extract (v := .int _ _) rfl rfl rfl) rfl ?_
        refine w_pure want_none (y_assign (v := .int _ _) rfl rfl) rfl ?_
        refine w_pure want_none (y_assign (v := .int _ _) rfl rfl) rfl ?_
        refine w_pure want_none (y_assign (v := .int _ _) rfl rfl) rfl ?_
        refine w_nil ?_
        refine q_then (hK343 _ _ ?_)
        refine w_seq (fun K349 hK348 => ?_)
        refine w_seq (fun K351 hK350 => ?_)
        refine w_region ?_
        refine w_pure want_none (y_move (v := .int _ _) rfl rfl) rfl ?_
        refine w_pure want_none (y_neq rfl rfl rfl rfl) rfl ?_
        refine w_pure want_none (y_move (v := .bool _) rfl rfl) rfl ?_
        refine w_split (fun h352 => ?_) (fun h352 => ?_)
        ·
          exfalso
          try simp only [Bool.not_eq_true', Bool.not_eq_false', decide_eq_true_eq, decide_eq_false_iff_not, Int.not_lt, Int.not_le] at h352
          omega
        ·
          try simp only [Bool.not_eq_true', Bool.not_eq_false', decide_eq_true_eq, decide_eq_false_iff_not, Int.not_lt, Int.not_le] at h352
          refine w_pure (want_yes rfl rfl rfl) (y_move (v := .int _ _) rfl rfl) rfl ?_
          refine w_pure (want_yes rfl rfl rfl) (y_neq rfl rfl rfl rfl) rfl ?_
          refine w_pure want_none (y_pickF (v := .bool _) rfl rfl rfl rfl) rfl ?_
          refine w_pure want_none (y_move (v := .bool _) rfl rfl) rfl ?_
          refine w_split (fun h353 => ?_) (fun h353 => ?_)
          ·
            exfalso
            try simp only [Bool.not_eq_true', Bool.not_eq_false', decide_eq_true_eq, decide_eq_false_iff_not, Int.not_lt, Int.not_le] at h353
            omega
          ·
            try simp only [Bool.not_eq_true', Bool.not_eq_false', decide_eq_true_eq, decide_eq_false_iff_not, Int.not_lt, Int.not_le] at h353
            refine w_pure (want_yes rfl rfl rfl) (y_move (v := .int _ _) rfl rfl) rfl ?_
            refine w_pure (want_yes rfl rfl rfl) (y_neq rfl rfl rfl rfl) rfl ?_
            refine w_pure want_none (y_pickF (v := .bool _) rfl rfl rfl rfl) rfl ?_
            refine w_pure want_none (y_move (v := .bool _) rfl rfl) rfl ?_
            refine w_split (fun h354 => ?_) (fun h354 => ?_)
            ·
              exfalso
              try simp only [Bool.not_eq_true', Bool.not_eq_false', decide_eq_true_eq, decide_eq_false_iff_not, Int.not_lt, Int.not_le] at h354
              omega
            ·
              try simp only [Bool.not_eq_true', Bool.not_eq_false', decide_eq_true_eq, decide_eq_false_iff_not, Int.not_lt, Int.not_le] at h354
              refine w_pure (want_yes rfl rfl rfl) (y_move (v := .slice _ _ _) rfl rfl) rfl ?_
              refine w_pure (want_yes rfl rfl rfl) (y_lenS Try.underlying31 rfl rfl) rfl ?_
              refine w_pure (want_yes rfl rfl rfl) (y_fieldAddr (o := 1) (i := 1) Try.underlying26 rfl Try.sizeOf23 rfl rfl rfl) rfl ?_
              refine w_pure (want_yes rfl rfl rfl) (y_fieldAddr (o := 1) (i := 1) Try.underlying23 rfl Try.sizeOf3 rfl rfl rfl) rfl ?_
              refine w_pure (want_yes rfl rfl rfl) (y_load1 Try.isAgg3 hs347.drop.drop.drop.tail rfl rfl (show Ats _ _ _ _ [_] from Ats.part hbx3 2 1)) rfl ?_
              refine w_pure (want_yes rfl rfl rfl) (y_fieldAddr (o := 1) (i := 1) Try.underlying26 rfl Try.sizeOf23 rfl rfl rfl) rfl ?_
              refine w_pure (want_yes rfl rfl rfl) (y_fieldAddr (o := 0) (i := 0) Try.underlying23 rfl Try.sizeOf3 rfl rfl rfl) rfl ?_
              refine w_pure (want_yes rfl rfl rfl) (y_load1 Try.isAgg3 hs347.drop.drop.drop.tail rfl rfl (show Ats _ _ _ _ [_] from Ats.part hbx3 1 1)) rfl ?_
              refine w_pure (want_yes rfl rfl rfl) (y_sub rfl rfl rfl rfl (by omega) (by omega)) rfl ?_
              refine w_pure (want_yes rfl rfl rfl) (y_add rfl rfl rfl rfl (by omega) (by omega)) rfl ?_
              refine w_pure (want_yes rfl rfl rfl) (y_neq rfl rfl rfl rfl) rfl ?_
              refine w_pure want_none (y_pickF (v := .bool _) rfl rfl rfl rfl) rfl ?_
              refine w_pure want_none (y_move (v := .bool _) rfl rfl) rfl ?_
              refine w_split (fun h355 => ?_) (fun h355 => ?_)
              ·
                exfalso
                try simp only [Bool.not_eq_true', Bool.not_eq_false', decide_eq_true_eq, decide_eq_false_iff_not, Int.not_lt, Int.not_le] at h355
                omega
              ·
                try simp only [Bool.not_eq_true', Bool.not_eq_false', decide_eq_true_eq, decide_eq_false_iff_not, Int.not_lt, Int.not_le] at h355
                refine w_pure (want_yes rfl rfl rfl) (y_move (v := .int _ _) rfl rfl) rfl ?_
                refine w_pure (want_yes rfl rfl rfl) (y_move (v := .slice _ _ _) rfl rfl) rfl ?_
                refine w_pure (want_yes rfl rfl rfl) (y_move (v := .int _ _) rfl rfl) rfl ?_
                have hqi : ((d % (p.chi - p.clo + 1))).toNat < (quayR p (anyC p.farms.length y)).length := by omega
                obtain ⟨bs, os, rfl, hsp⟩ := sl_spans h_B3 hqi
                replace hsp := hsp.2
                rw [quay_get hee hqi, Int.toNat_of_nonneg hq1] at hsp
                refine w_pure (want_yes rfl rfl rfl) (y_indexS Try.underlying31 Try.sizeOf23 rfl rfl rfl rfl (i := ((d % (p.chi - p.clo + 1))).toNat) (by omega) (by omega)) rfl ?_
                refine w_pure (want_yes rfl rfl rfl) (y_loadN (vs := [_, _]) Try.isAgg23 Try.sizeOf23 hs347 rfl rfl hsp) rfl ?_
                refine w_call (want_yes rfl rfl rfl) Try.call41 rfl rfl rfl rfl (c41 _ _ _ hs347) ?_
                rintro _ w357 ⟨rfl, hs358⟩
                refine w_pure (want_yes rfl rfl rfl) (y_not rfl rfl) rfl ?_
                refine w_pure want_none (y_pickF (v := .bool _) rfl rfl rfl rfl) rfl ?_
                refine w_pure want_none (y_move (v := .bool _) rfl rfl) rfl ?_
                refine w_split (fun h359 => ?_) (fun h359 => ?_)
                ·
                  exfalso
                  try simp only [Bool.not_eq_true', Bool.not_eq_false', decide_eq_true_eq, decide_eq_false_iff_not, Int.not_lt, Int.not_le] at h359
                  omega
                ·
                  try simp only [Bool.not_eq_true', Bool.not_eq_false', decide_eq_true_eq, decide_eq_false_iff_not, Int.not_lt, Int.not_le] at h359
                  refine w_pure (want_yes rfl rfl rfl) (y_move (v := .int _ _) rfl rfl) rfl ?_
                  refine w_pure (want_yes rfl rfl rfl) (y_move (v := .int _ _) rfl rfl) rfl ?_
                  refine w_pure (want_yes rfl rfl rfl) (y_gtr rfl rfl rfl rfl) rfl ?_
                  refine w_pure want_none (y_pickF (v := .bool _) rfl rfl rfl rfl) rfl ?_
                  refine w_nil ?_
                  refine q_then (hK350 _ _ ?_)
                  refine w_cond rfl rfl (fun h360 => ?_) (fun h360 => ?_)
                  ·
                    exfalso
                    try simp only [Bool.not_eq_true', Bool.not_eq_false', decide_eq_true_eq, decide_eq_false_iff_not, Int.not_lt, Int.not_le] at h360
                    omega
                  ·
                    try simp only [Bool.not_eq_true', Bool.not_eq_false', decide_eq_true_eq, decide_eq_false_iff_not, Int.not_lt, Int.not_le] at h360
                    refine w_skip ?_
                    refine q_then (hK348 _ _ ?_)
                    refine w_seq (fun K362 hK361 => ?_)
                    refine w_region ?_
                    refine w_pure want_none (y_move (v := .int _ _) rfl rfl) rfl ?_
                    refine w_pure want_none (y_fieldAddr (o := 0) (i := 0) Try.underlying26 rfl Try.sizeOf3 rfl rfl rfl) rfl ?_
                    refine w_pure want_none (y_load1 Try.isAgg3 hs358.drop.drop.drop.tail rfl rfl (show Ats _ _ _ _ [_] from Ats.part hbx3 0 1)) rfl ?_
                    refine w_pure want_none (y_geq rfl rfl rfl rfl) rfl ?_
                    refine w_pure want_none (y_assign (v := .bool _) rfl rfl) rfl ?_
                    refine w_nil ?_
                    refine q_then (hK361 _ _ ?_)
                    refine w_seq (fun K364 hK363 => ?_)
                    refine w_region ?_
                    refine w_pure want_none (y_move (v := .int _ _) rfl rfl) rfl ?_
                    refine w_pure want_none (y_neq rfl rfl rfl rfl) rfl ?_
                    refine w_pure want_none (y_move (v := .bool _) rfl rfl) rfl ?_
                    refine w_split (fun h365 => ?_) (fun h365 => ?_)
                    ·
                      try simp only [Bool.not_eq_true', Bool.not_eq_false', decide_eq_true_eq, decide_eq_false_iff_not, Int.not_lt, Int.not_le] at h365
                      refine w_skipop rfl rfl rfl ?_
                      refine w_pure want_none (y_pickT (v := _) rfl rfl rfl rfl) rfl ?_
                      refine w_pure want_none (y_move (v := .bool _) rfl rfl) rfl ?_
                      refine w_pure (want_yes rfl rfl rfl) (y_move (v := .int _ _) rfl rfl) rfl ?_
                      refine w_pure (want_yes rfl rfl rfl) (y_neq rfl rfl rfl rfl) rfl ?_
                      refine w_pure (want_yes rfl rfl rfl) (y_move (v := .bool _) rfl rfl) rfl ?_
                      refine w_split (fun h366 => ?_) (fun h366 => ?_)
                      ·
                        try simp only [Bool.not_eq_true', Bool.not_eq_false', decide_eq_true_eq, decide_eq_false_iff_not, Int.not_lt, Int.not_le] at h366
                        refine w_skipop rfl rfl rfl ?_
                        refine w_skipop rfl rfl rfl ?_
                        refine w_pure (want_yes rfl rfl rfl) (y_pickT (v := _) rfl rfl rfl rfl) rfl ?_
                        refine w_pure want_none (y_pickT (v := .bool _) rfl rfl rfl rfl) rfl ?_
                        refine w_pure want_none (y_move (v := .bool _) rfl rfl) rfl ?_
                        refine w_pure (want_yes rfl rfl rfl) (y_move (v := .int _ _) rfl rfl) rfl ?_
                        refine w_pure (want_yes rfl rfl rfl) (y_neq rfl rfl rfl rfl) rfl ?_
                        refine w_pure (want_yes rfl rfl rfl) (y_move (v := .bool _) rfl rfl) rfl ?_
                        refine w_split (fun h367 => ?_) (fun h367 => ?_)
                        ·
                          try simp only [Bool.not_eq_true', Bool.not_eq_false', decide_eq_true_eq, decide_eq_false_iff_not, Int.not_lt, Int.not_le] at h367
                          refine w_skipop rfl rfl rfl ?_
                          refine w_skipop rfl rfl rfl ?_
                          refine w_pure (want_yes rfl rfl rfl) (y_pickT (v := _) rfl rfl rfl rfl) rfl ?_
                          refine w_pure want_none (y_pickT (v := .bool _) rfl rfl rfl rfl) rfl ?_
                          refine w_pure want_none (y_move (v := .bool _) rfl rfl) rfl ?_
                          refine w_call (want_yes rfl rfl rfl) Try.call23 rfl rfl rfl rfl (c23 hs358) ?_
                          rintro _ w369 ⟨rfl, hs370⟩
                          refine w_pure want_none (y_pickT (v := .bool _) rfl rfl rfl rfl) rfl ?_
                          refine w_pure want_none (y_assign (v := .bool _) rfl rfl) rfl ?_
                          refine w_nil ?_
                          refine q_then (hK363 _ _ ?_)
                          refine w_ret ?_
                          refine q_ret (l := [.tmp 6]) (vs := [_]) rfl ⟨⟨rfl, show _ = (.bool _ : Value) from rfl⟩, trivial⟩ ?_
                          exact ⟨rfl, hs370.drop.drop.drop.tail.tail⟩
                        ·
                          try simp only [Bool.not_eq_true', Bool.not_eq_false', decide_eq_true_eq, decide_eq_false_iff_not, Int.not_lt, Int.not_le] at h367
                          refine w_pure (want_yes rfl rfl rfl) (y_move (v := .int _ _) rfl rfl) rfl ?_
                          refine w_pure (want_yes rfl rfl rfl) (y_eql rfl rfl rfl rfl) rfl ?_
                          refine w_pure (want_yes rfl rfl rfl) (y_pickF (v := .bool _) rfl rfl rfl rfl) rfl ?_
                          refine w_pure want_none (y_pickT (v := .bool _) rfl rfl rfl rfl) rfl ?_
                          refine w_pure want_none (y_move (v := .bool _) rfl rfl) rfl ?_
                          refine w_split (fun h371 => ?_) (fun h371 => ?_)
                          ·
                            try simp only [Bool.not_eq_true', Bool.not_eq_false', decide_eq_true_eq, decide_eq_false_iff_not, Int.not_lt, Int.not_le] at h371
                            refine w_call (want_yes rfl rfl rfl) Try.call23 rfl rfl rfl rfl (c23 hs358) ?_
                            rintro _ w373 ⟨rfl, hs374⟩
                            refine w_pure want_none (y_pickT (v := .bool _) rfl rfl rfl rfl) rfl ?_
                            refine w_pure want_none (y_assign (v := .bool _) rfl rfl) rfl ?_
                            refine w_nil ?_
                            refine q_then (hK363 _ _ ?_)
                            refine w_ret ?_
                            refine q_ret (l := [.tmp 6]) (vs := [_]) rfl ⟨⟨rfl, show _ = (.bool _ : Value) from rfl⟩, trivial⟩ ?_
                            exact ⟨rfl, hs374.drop.drop.drop.tail.tail⟩
                          ·
                            exfalso
                            try simp only [Bool.not_eq_true', Bool.not_eq_false', decide_eq_true_eq, decide_eq_false_iff_not, Int.not_lt, Int.not_le] at h371
                            omega
                      ·
                        try simp only [Bool.not_eq_true', Bool.not_eq_false', decide_eq_true_eq, decide_eq_false_iff_not, Int.not_lt, Int.not_le] at h366
                        refine w_pure (want_yes rfl rfl rfl) (y_move (v := .bool _) rfl rfl) rfl ?_
                        refine w_pure (want_yes rfl rfl rfl) (y_not rfl rfl) rfl ?_
                        refine w_pure (want_yes rfl rfl rfl) (y_pickF (v := .bool _) rfl rfl rfl rfl) rfl ?_
                        refine w_pure want_none (y_pickT (v := .bool _) rfl rfl rfl rfl) rfl ?_
                        refine w_pure want_none (y_move (v := .bool _) rfl rfl) rfl ?_
                        refine w_split (fun h375 => ?_) (fun h375 => ?_)
                        ·
                          try simp only [Bool.not_eq_true', Bool.not_eq_false', decide_eq_true_eq, decide_eq_false_iff_not, Int.not_lt, Int.not_le] at h375
                          refine w_pure (want_yes rfl rfl rfl) (y_move (v := .int _ _) rfl rfl) rfl ?_
                          refine w_pure (want_yes rfl rfl rfl) (y_neq rfl rfl rfl rfl) rfl ?_
                          refine w_pure (want_yes rfl rfl rfl) (y_move (v := .bool _) rfl rfl) rfl ?_
                          refine w_split (fun h376 => ?_) (fun h376 => ?_)
                          ·
                            try simp only [Bool.not_eq_true', Bool.not_eq_false', decide_eq_true_eq, decide_eq_false_iff_not, Int.not_lt, Int.not_le] at h376
                            refine w_skipop rfl rfl rfl ?_
                            refine w_skipop rfl rfl rfl ?_
                            refine w_pure (want_yes rfl rfl rfl) (y_pickT (v := _) rfl rfl rfl rfl) rfl ?_
                            refine w_pure want_none (y_pickT (v := .bool _) rfl rfl rfl rfl) rfl ?_
                            refine w_pure want_none (y_move (v := .bool _) rfl rfl) rfl ?_
                            refine w_call (want_yes rfl rfl rfl) Try.call23 rfl rfl rfl rfl (c23 hs358) ?_
                            rintro _ w378 ⟨rfl, hs379⟩
                            refine w_pure want_none (y_pickT (v := .bool _) rfl rfl rfl rfl) rfl ?_
                            refine w_pure want_none (y_assign (v := .bool _) rfl rfl) rfl ?_
                            refine w_nil ?_
                            refine q_then (hK363 _ _ ?_)
                            refine w_ret ?_
                            refine q_ret (l := [.tmp 6]) (vs := [_]) rfl ⟨⟨rfl, show _ = (.bool _ : Value) from rfl⟩, trivial⟩ ?_
                            exact ⟨rfl, hs379.drop.drop.drop.tail.tail⟩
                          ·
                            try simp only [Bool.not_eq_true', Bool.not_eq_false', decide_eq_true_eq, decide_eq_false_iff_not, Int.not_lt, Int.not_le] at h376
                            refine w_pure (want_yes rfl rfl rfl) (y_move (v := .int _ _) rfl rfl) rfl ?_
                            refine w_pure (want_yes rfl rfl rfl) (y_eql rfl rfl rfl rfl) rfl ?_
                            refine w_pure (want_yes rfl rfl rfl) (y_pickF (v := .bool _) rfl rfl rfl rfl) rfl ?_
                            refine w_pure want_none (y_pickT (v := .bool _) rfl rfl rfl rfl) rfl ?_
                            refine w_pure want_none (y_move (v := .bool _) rfl rfl) rfl ?_
                            refine w_split (fun h380 => ?_) (fun h380 => ?_)
                            ·
                              try simp only [Bool.not_eq_true', Bool.not_eq_false', decide_eq_true_eq, decide_eq_false_iff_not, Int.not_lt, Int.not_le] at h380
                              refine w_call (want_yes rfl rfl rfl) Try.call23 rfl rfl rfl rfl (c23 hs358) ?_
                              rintro _ w382 ⟨rfl, hs383⟩
                              refine w_pure want_none (y_pickT (v := .bool _) rfl rfl rfl rfl) rfl ?_
                              refine w_pure want_none (y_assign (v := .bool _) rfl rfl) rfl ?_
                              refine w_nil ?_
                              refine q_then (hK363 _ _ ?_)
                              refine w_ret ?_
                              refine q_ret (l := [.tmp 6]) (vs := [_]) rfl ⟨⟨rfl, show _ = (.bool _ : Value) from rfl⟩, trivial⟩ ?_
                              exact ⟨rfl, hs383.drop.drop.drop.tail.tail⟩
                            ·
                              exfalso
                              try simp only [Bool.not_eq_true', Bool.not_eq_false', decide_eq_true_eq, decide_eq_false_iff_not, Int.not_lt, Int.not_le] at h380
                              omega
                        ·
                          exfalso
                          try simp only [Bool.not_eq_true', Bool.not_eq_false', decide_eq_true_eq, decide_eq_false_iff_not, Int.not_lt, Int.not_le] at h375
                          omega
                    ·
                      try simp only [Bool.not_eq_true', Bool.not_eq_false', decide_eq_true_eq, decide_eq_false_iff_not, Int.not_lt, Int.not_le] at h365
                      refine w_pure (want_yes rfl rfl rfl) (y_move (v := .bool _) rfl rfl) rfl ?_
                      refine w_pure want_none (y_pickF (v := .bool _) rfl rfl rfl rfl) rfl ?_
                      refine w_pure want_none (y_move (v := .bool _) rfl rfl) rfl ?_
                      refine w_split (fun h384 => ?_) (fun h384 => ?_)
                      ·
                        try simp only [Bool.not_eq_true', Bool.not_eq_false', decide_eq_true_eq, decide_eq_false_iff_not, Int.not_lt, Int.not_le] at h384
                        refine w_pure (want_yes rfl rfl rfl) (y_move (v := .int _ _) rfl rfl) rfl ?_
                        refine w_pure (want_yes rfl rfl rfl) (y_neq rfl rfl rfl rfl) rfl ?_
                        refine w_pure (want_yes rfl rfl rfl) (y_move (v := .bool _) rfl rfl) rfl ?_
                        refine w_split (fun h385 => ?_) (fun h385 => ?_)
                        ·
                          try simp only [Bool.not_eq_true', Bool.not_eq_false', decide_eq_true_eq, decide_eq_false_iff_not, Int.not_lt, Int.not_le] at h385
                          refine w_skipop rfl rfl rfl ?_
                          refine w_skipop rfl rfl rfl ?_
                          refine w_pure (want_yes rfl rfl rfl) (y_pickT (v := _) rfl rfl rfl rfl) rfl ?_
                          refine w_pure want_none (y_pickT (v := .bool _) rfl rfl rfl rfl) rfl ?_
                          refine w_pure want_none (y_move (v := .bool _) rfl rfl) rfl ?_
                          refine w_pure (want_yes rfl rfl rfl) (y_move (v := .int _ _) rfl rfl) rfl ?_
                          refine w_pure (want_yes rfl rfl rfl) (y_neq rfl rfl rfl rfl) rfl ?_
                          refine w_pure (want_yes rfl rfl rfl) (y_move (v := .bool _) rfl rfl) rfl ?_
                          refine w_split (fun h386 => ?_) (fun h386 => ?_)
                          ·
                            try simp only [Bool.not_eq_true', Bool.not_eq_false', decide_eq_true_eq, decide_eq_false_iff_not, Int.not_lt, Int.not_le] at h386
                            refine w_skipop rfl rfl rfl ?_
                            refine w_skipop rfl rfl rfl ?_
                            refine w_pure (want_yes rfl rfl rfl) (y_pickT (v := _) rfl rfl rfl rfl) rfl ?_
                            refine w_pure want_none (y_pickT (v := .bool _) rfl rfl rfl rfl) rfl ?_
                            refine w_pure want_none (y_move (v := .bool _) rfl rfl) rfl ?_
                            refine w_call (want_yes rfl rfl rfl) Try.call23 rfl rfl rfl rfl (c23 hs358) ?_
                            rintro _ w388 ⟨rfl, hs389⟩
                            refine w_pure want_none (y_pickT (v := .bool _) rfl rfl rfl rfl) rfl ?_
                            refine w_pure want_none (y_assign (v := .bool _) rfl rfl) rfl ?_
                            refine w_nil ?_
                            refine q_then (hK363 _ _ ?_)
                            refine w_ret ?_
                            refine q_ret (l := [.tmp 6]) (vs := [_]) rfl ⟨⟨rfl, show _ = (.bool _ : Value) from rfl⟩, trivial⟩ ?_
                            exact ⟨rfl, hs389.drop.drop.drop.tail.tail⟩
                          ·
                            try simp only [Bool.not_eq_true', Bool.not_eq_false', decide_eq_true_eq, decide_eq_false_iff_not, Int.not_lt, Int.not_le] at h386
                            refine w_pure (want_yes rfl rfl rfl) (y_move (v := .int _ _) rfl rfl) rfl ?_
                            refine w_pure (want_yes rfl rfl rfl) (y_eql rfl rfl rfl rfl) rfl ?_
                            refine w_pure (want_yes rfl rfl rfl) (y_pickF (v := .bool _) rfl rfl rfl rfl) rfl ?_
                            refine w_pure want_none (y_pickT (v := .bool _) rfl rfl rfl rfl) rfl ?_
                            refine w_pure want_none (y_move (v := .bool _) rfl rfl) rfl ?_
                            refine w_split (fun h390 => ?_) (fun h390 => ?_)
                            ·
                              try simp only [Bool.not_eq_true', Bool.not_eq_false', decide_eq_true_eq, decide_eq_false_iff_not, Int.not_lt, Int.not_le] at h390
                              refine w_call (want_yes rfl rfl rfl) Try.call23 rfl rfl rfl rfl (c23 hs358) ?_
                              rintro _ w392 ⟨rfl, hs393⟩
                              refine w_pure want_none (y_pickT (v := .bool _) rfl rfl rfl rfl) rfl ?_
                              refine w_pure want_none (y_assign (v := .bool _) rfl rfl) rfl ?_
                              refine w_nil ?_
                              refine q_then (hK363 _ _ ?_)
                              refine w_ret ?_
                              refine q_ret (l := [.tmp 6]) (vs := [_]) rfl ⟨⟨rfl, show _ = (.bool _ : Value) from rfl⟩, trivial⟩ ?_
                              exact ⟨rfl, hs393.drop.drop.drop.tail.tail⟩
                            ·
                              exfalso
                              try simp only [Bool.not_eq_true', Bool.not_eq_false', decide_eq_true_eq, decide_eq_false_iff_not, Int.not_lt, Int.not_le] at h390
                              omega
                        ·
                          try simp only [Bool.not_eq_true', Bool.not_eq_false', decide_eq_true_eq, decide_eq_false_iff_not, Int.not_lt, Int.not_le] at h385
                          refine w_pure (want_yes rfl rfl rfl) (y_move (v := .bool _) rfl rfl) rfl ?_
                          refine w_pure (want_yes rfl rfl rfl) (y_not rfl rfl) rfl ?_
                          refine w_pure (want_yes rfl rfl rfl) (y_pickF (v := .bool _) rfl rfl rfl rfl) rfl ?_
                          refine w_pure want_none (y_pickT (v := .bool _) rfl rfl rfl rfl) rfl ?_
                          refine w_pure want_none (y_move (v := .bool _) rfl rfl) rfl ?_
                          refine w_split (fun h394 => ?_) (fun h394 => ?_)
                          ·
                            try simp only [Bool.not_eq_true', Bool.not_eq_false', decide_eq_true_eq, decide_eq_false_iff_not, Int.not_lt, Int.not_le] at h394
                            refine w_pure (want_yes rfl rfl rfl) (y_move (v := .int _ _) rfl rfl) rfl ?_
                            refine w_pure (want_yes rfl rfl rfl) (y_neq rfl rfl rfl rfl) rfl ?_
                            refine w_pure (want_yes rfl rfl rfl) (y_move (v := .bool _) rfl rfl) rfl ?_
                            refine w_split (fun h395 => ?_) (fun h395 => ?_)
                            ·
                              try simp only [Bool.not_eq_true', Bool.not_eq_false', decide_eq_true_eq, decide_eq_false_iff_not, Int.not_lt, Int.not_le] at h395
                              refine w_skipop rfl rfl rfl ?_
                              refine w_skipop rfl rfl rfl ?_
                              refine w_pure (want_yes rfl rfl rfl) (y_pickT (v := _) rfl rfl rfl rfl) rfl ?_
                              refine w_pure want_none (y_pickT (v := .bool _) rfl rfl rfl rfl) rfl ?_
                              refine w_pure want_none (y_move (v := .bool _) rfl rfl) rfl ?_
                              refine w_call (want_yes rfl rfl rfl) Try.call23 rfl rfl rfl rfl (c23 hs358) ?_
                              rintro _ w397 ⟨rfl, hs398⟩
                              refine w_pure want_none (y_pickT (v := .bool _) rfl rfl rfl rfl) rfl ?_
                              refine w_pure want_none (y_assign (v := .bool _) rfl rfl) rfl ?_
                              refine w_nil ?_
                              refine q_then (hK363 _ _ ?_)
                              refine w_ret ?_
                              refine q_ret (l := [.tmp 6]) (vs := [_]) rfl ⟨⟨rfl, show _ = (.bool _ : Value) from rfl⟩, trivial⟩ ?_
                              exact ⟨rfl, hs398.drop.drop.drop.tail.tail⟩
                            ·
                              try simp only [Bool.not_eq_true', Bool.not_eq_false', decide_eq_true_eq, decide_eq_false_iff_not, Int.not_lt, Int.not_le] at h395
                              refine w_pure (want_yes rfl rfl rfl) (y_move (v := .int _ _) rfl rfl) rfl ?_
                              refine w_pure (want_yes rfl rfl rfl) (y_eql rfl rfl rfl rfl) rfl ?_
                              refine w_pure (want_yes rfl rfl rfl) (y_pickF (v := .bool _) rfl rfl rfl rfl) rfl ?_
                              refine w_pure want_none (y_pickT (v := .bool _) rfl rfl rfl rfl) rfl ?_
                              refine w_pure want_none (y_move (v := .bool _) rfl rfl) rfl ?_
                              refine w_split (fun h399 => ?_) (fun h399 => ?_)
                              ·
                                try simp only [Bool.not_eq_true', Bool.not_eq_false', decide_eq_true_eq, decide_eq_false_iff_not, Int.not_lt, Int.not_le] at h399
                                refine w_call (want_yes rfl rfl rfl) Try.call23 rfl rfl rfl rfl (c23 hs358) ?_
                                rintro _ w401 ⟨rfl, hs402⟩
                                refine w_pure want_none (y_pickT (v := .bool _) rfl rfl rfl rfl) rfl ?_
                                refine w_pure want_none (y_assign (v := .bool _) rfl rfl) rfl ?_
                                refine w_nil ?_
                                refine q_then (hK363 _ _ ?_)
                                refine w_ret ?_
                                refine q_ret (l := [.tmp 6]) (vs := [_]) rfl ⟨⟨rfl, show _ = (.bool _ : Value) from rfl⟩, trivial⟩ ?_
                                exact ⟨rfl, hs402.drop.drop.drop.tail.tail⟩
                              ·
                                exfalso
                                try simp only [Bool.not_eq_true', Bool.not_eq_false', decide_eq_true_eq, decide_eq_false_iff_not, Int.not_lt, Int.not_le] at h399
                                omega
                          ·
                            exfalso
                            try simp only [Bool.not_eq_true', Bool.not_eq_false', decide_eq_true_eq, decide_eq_false_iff_not, Int.not_lt, Int.not_le] at h394
                            omega
                      ·
                        exfalso
                        try simp only [Bool.not_eq_true', Bool.not_eq_false', decide_eq_true_eq, decide_eq_false_iff_not, Int.not_lt, Int.not_le] at h384
                        omega

end Go.Proofs
