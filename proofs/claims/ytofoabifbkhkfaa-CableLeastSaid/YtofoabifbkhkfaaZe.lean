/- Walks of this seat, printed by gen.py over the engine: what each function returns, in whatever world. No conditions but those of each contract. -/
import Derived.Test.YtofoabifbkhkfaaZc
import Derived.Test.YtofoabifbkhkfaaCSpec14
set_option linter.unusedVariables false
set_option linter.unusedSimpArgs false
set_option maxRecDepth 20000
namespace Go.Proofs
open Go.Rt
attribute [local irreducible] WL WC Con Yd At Ats Sl Agree DW

theorem c9 {w0 w : World} {F : List (Nat × Obj)} (p : Port) (a : Option Addr) (c : Nat) (hl3 : p.farms.length ≤ 9223372036854775807) (hc : p.farms.length ≤ c) (ha : Sl w0 F a 6 (rows p.farms)) (hnm : ∀ f ∈ p.farms, f.name.size ≤ 9223372036854775807) (ay : Option Addr) (cy : Nat) (y : List Int) (hyl : y.length ≤ 9223372036854775807) (hys : Sl w0 F ay 1 (y.map fun n => [Value.int .u8 n])) (hyr : ∀ z ∈ y, 0 ≤ z ∧ z ≤ 255) (hs : St w0 w F) :
  Con Try.prog 9 [.agg (p.cells a c).toArray, .slice ay y.length cy] w fun v w' => v = .bool true ∧ St w0 w' F := by
  refine con_of_wc (n := 86) Try.func9 rfl rfl (Nat.le_of_ble_eq_true rfl) ?_
  refine w_seq (fun K2 hK1 => ?_)
  refine w_region ?_
  refine w_box (v := .agg #[.int _ _, .int _ _, .int _ _, .slice _ _ _]) (cs := [_, _, _, _]) want_none rfl rfl rfl hs (fun b3 w4 hs5 => ?_)
  refine w_pure want_none (y_assign (v := _) rfl rfl) rfl ?_
  refine w_nil ?_
  refine q_then (hK1 _ _ ?_)
  refine w_seq (fun K7 hK6 => ?_)
  refine w_seq (fun K9 hK8 => ?_)
  have hbx2 : Ats w0 ((b3, blk 26 (p.cells a c)) :: F) b3 0 (p.cells a c) := ats_own (i := 0) (vs := (p.cells a c)) rfl rfl
  refine w_region ?_
  refine w_pure want_none (y_loadN (vs := [_, _, _, _]) Try.isAgg26 Try.sizeOf26 hs5 rfl rfl hbx2) rfl ?_
  refine w_call want_none Try.call37 rfl rfl rfl rfl (c37 p _ _ (by omega) (by omega) ha.cons hnm hs5) ?_
  rintro _ w11 ⟨rfl, hs12⟩
  refine w_pure want_none (y_not rfl rfl) rfl ?_
  refine w_nil ?_
  refine q_then (hK8 _ _ ?_)
  refine w_cond rfl rfl (fun h13 => ?_) (fun h13 => ?_)
  ·
    try simp only [Bool.not_eq_true', Bool.not_eq_false', decide_eq_true_eq, decide_eq_false_iff_not, Int.not_lt, Int.not_le] at h13
    refine w_seq (fun K15 hK14 => ?_)
    refine w_region ?_
    refine w_pure want_none (y_loadN (vs := [_, _, _, _]) Try.isAgg26 Try.sizeOf26 hs12 rfl rfl hbx2) rfl ?_
    refine w_call want_none Try.call26 rfl rfl rfl rfl (c26 p _ _ (by omega) (by omega) ha.cons hnm hs12) ?_
    rintro _ w17 ⟨B1, aq_B1, cq_B1, rfl, h_B1, hs18⟩
    replace hs18 := (show St _ _ (B1 ++ (_ :: F)) from hs18)
    refine w_pure want_none (y_move (v := .tuple _) rfl rfl) rfl ?_
    refine w_pure want_none (y_extract (v := .slice _ _ _) rfl rfl rfl) rfl ?_
    refine w_pure want_none (y_extract (v := .int _ _) rfl rfl rfl) rfl ?_
    refine w_pure want_none (y_extract (v := .int _ _) rfl rfl rfl) rfl ?_
    refine w_pure want_none (y_assign (v := .slice _ _ _) rfl rfl) rfl ?_
    refine w_pure want_none (y_assign (v := .int _ _) rfl rfl) rfl ?_
    refine w_pure want_none (y_assign (v := .int _ _) rfl rfl) rfl ?_
    refine w_nil ?_
    refine q_then (hK14 _ _ ?_)
    refine w_seq (fun K20 hK19 => ?_)
    refine w_region ?_
    refine w_pure want_none (y_move (v := .int _ _) rfl rfl) rfl ?_
    refine w_pure want_none (y_neq rfl rfl rfl rfl) rfl ?_
    refine w_pure want_none (y_move (v := .bool _) rfl rfl) rfl ?_
    refine w_split (fun h21 => ?_) (fun h21 => ?_)
    ·
      try simp only [Bool.not_eq_true', Bool.not_eq_false', decide_eq_true_eq, decide_eq_false_iff_not, Int.not_lt, Int.not_le] at h21
      refine w_call (want_yes rfl rfl rfl) Try.call23 rfl rfl rfl rfl (c23 hs18) ?_
      rintro _ w23 ⟨rfl, hs24⟩
      refine w_pure want_none (y_pickT (v := .bool _) rfl rfl rfl rfl) rfl ?_
      refine w_pure want_none (y_assign (v := .bool _) rfl rfl) rfl ?_
      refine w_nil ?_
      refine q_then (hK19 _ _ ?_)
      refine w_ret ?_
      refine q_then_ret ?_
      refine q_ret (l := [.tmp 4]) (vs := [_]) rfl ⟨⟨rfl, show _ = (.bool _ : Value) from rfl⟩, trivial⟩ ?_
      exact ⟨rfl, hs24.drop.tail⟩
    ·
      exfalso
      try simp only [Bool.not_eq_true', Bool.not_eq_false', decide_eq_true_eq, decide_eq_false_iff_not, Int.not_lt, Int.not_le] at h21
      have hpe := (plan_e1 (p := p) (by assumption)).2.2; omega
  ·
    try simp only [Bool.not_eq_true', Bool.not_eq_false', decide_eq_true_eq, decide_eq_false_iff_not, Int.not_lt, Int.not_le] at h13
    refine w_skip ?_
    refine q_then (hK6 _ _ ?_)
    refine w_seq (fun K26 hK25 => ?_)
    have hck : (check p).2.2 = 0 := by assumption
    have hok := check_ok hck
    have hlen3 := hok.len
    have hpe := plan_e09 hck
    refine w_region ?_
    refine w_pure want_none (y_loadN (vs := [_, _, _, _]) Try.isAgg26 Try.sizeOf26 hs12 rfl rfl hbx2) rfl ?_
    refine w_call want_none Try.call26 rfl rfl rfl rfl (c26 p _ _ (by omega) (by omega) ha.cons hnm hs12) ?_
    rintro _ w28 ⟨B1, aq_B1, cq_B1, rfl, h_B1, hs29⟩
    replace hs29 := (show St _ _ (B1 ++ (_ :: F)) from hs29)
    refine w_pure want_none (y_move (v := .tuple _) rfl rfl) rfl ?_
    refine w_pure want_none (y_extract (v := .slice _ _ _) rfl rfl rfl) rfl ?_
    refine w_pure want_none (y_extract (v := .int _ _) rfl rfl rfl) rfl ?_
    refine w_pure want_none (y_extract (v := .int _ _) rfl rfl rfl) rfl ?_
    refine w_pure want_none (y_assign (v := .slice _ _ _) rfl rfl) rfl ?_
    refine w_pure want_none (y_assign (v := .int _ _) rfl rfl) rfl ?_
    refine w_pure want_none (y_assign (v := .int _ _) rfl rfl) rfl ?_
    refine w_nil ?_
    refine q_then (hK25 _ _ ?_)
    refine w_seq (fun K31 hK30 => ?_)
    refine w_region ?_
    refine w_pure want_none (y_loadN (vs := [_, _, _, _]) Try.isAgg26 Try.sizeOf26 hs29.drop rfl rfl hbx2) rfl ?_
    refine w_pure want_none (y_move (v := .slice _ _ _) rfl rfl) rfl ?_
    refine w_call want_none Try.call40 rfl rfl rfl rfl (c40 p _ _ (by omega) _ _ y hyl hys.cons.app hyr hs29) ?_
    rintro _ w33 ⟨B2, aq2, cq2, rfl, h_B2, hs34⟩
    replace hs34 := (show St _ _ (B2 ++ (B1 ++ (_ :: F))) from hs34)
    refine w_pure want_none (y_assign (v := .slice _ _ _) rfl rfl) rfl ?_
    refine w_nil ?_
    refine q_then (hK30 _ _ ?_)
    refine w_seq (fun K36 hK35 => ?_)
    have hD : does p (anyC p.farms.length y) = 1 → planE p = 0 := fun h => (plan_iff hck).2 (List.length_pos_of_mem (do_mem (any_all _ y) (does_one.1 h)))
    refine w_region ?_
    refine w_pure want_none (y_loadN (vs := [_, _, _, _]) Try.isAgg26 Try.sizeOf26 hs34.drop.drop rfl rfl hbx2) rfl ?_
    refine w_pure want_none (y_move (v := .slice _ _ _) rfl rfl) rfl ?_
    refine w_call want_none Try.call42 rfl rfl rfl rfl (c42 p _ _ ha.cons.app.app hok _ _ (anyC p.farms.length y) (any_len _ _) h_B2 any_in hs34) ?_
    rintro _ w38 ⟨rfl, hs39⟩
    refine w_pure want_none (y_eql rfl rfl rfl rfl) rfl ?_
    refine w_pure want_none (y_assign (v := .bool _) rfl rfl) rfl ?_
    refine w_nil ?_
    refine q_then (hK35 _ _ ?_)
    refine w_seq (fun K41 hK40 => ?_)
    refine w_seq (fun K43 hK42 => ?_)
    refine w_region ?_
    refine w_pure want_none (y_move (v := .int _ _) rfl rfl) rfl ?_
    refine w_pure want_none (y_neq rfl rfl rfl rfl) rfl ?_
    refine w_nil ?_
    refine q_then (hK42 _ _ ?_)
    refine w_cond rfl rfl (fun h44 => ?_) (fun h44 => ?_)
    ·
      try simp only [Bool.not_eq_true', Bool.not_eq_false', decide_eq_true_eq, decide_eq_false_iff_not, Int.not_lt, Int.not_le] at h44
      refine w_seq (fun K46 hK45 => ?_)
      have hp0 : (planL p).length = 0 := by rw [(plan_not hck (by assumption)).2]; rfl
      refine w_region ?_
      refine w_pure want_none (y_move (v := .int _ _) rfl rfl) rfl ?_
      refine w_pure want_none (y_eql rfl rfl rfl rfl) rfl ?_
      refine w_pure want_none (y_move (v := .bool _) rfl rfl) rfl ?_
      refine w_split (fun h47 => ?_) (fun h47 => ?_)
      ·
        try simp only [Bool.not_eq_true', Bool.not_eq_false', decide_eq_true_eq, decide_eq_false_iff_not, Int.not_lt, Int.not_le] at h47
        refine w_pure (want_yes rfl rfl rfl) (y_move (v := .slice _ _ _) rfl rfl) rfl ?_
        refine w_pure (want_yes rfl rfl rfl) (y_lenS Try.underlying27 rfl rfl) rfl ?_
        refine w_pure (want_yes rfl rfl rfl) (y_eql rfl rfl rfl rfl) rfl ?_
        refine w_pure want_none (y_pickT (v := .bool _) rfl rfl rfl rfl) rfl ?_
        refine w_pure want_none (y_move (v := .bool _) rfl rfl) rfl ?_
        refine w_split (fun h48 => ?_) (fun h48 => ?_)
        ·
          try simp only [Bool.not_eq_true', Bool.not_eq_false', decide_eq_true_eq, decide_eq_false_iff_not, Int.not_lt, Int.not_le] at h48
          refine w_pure (want_yes rfl rfl rfl) (y_move (v := .bool _) rfl rfl) rfl ?_
          refine w_pure (want_yes rfl rfl rfl) (y_not rfl rfl) rfl ?_
          refine w_pure want_none (y_pickT (v := .bool _) rfl rfl rfl rfl) rfl ?_
          refine w_pure want_none (y_move (v := .bool _) rfl rfl) rfl ?_
          refine w_split (fun h49 => ?_) (fun h49 => ?_)
          ·
            try simp only [Bool.not_eq_true', Bool.not_eq_false', decide_eq_true_eq, decide_eq_false_iff_not, Int.not_lt, Int.not_le] at h49
            refine w_call (want_yes rfl rfl rfl) Try.call23 rfl rfl rfl rfl (c23 hs39) ?_
            rintro _ w51 ⟨rfl, hs52⟩
            refine w_pure want_none (y_pickT (v := .bool _) rfl rfl rfl rfl) rfl ?_
            refine w_pure want_none (y_assign (v := .bool _) rfl rfl) rfl ?_
            refine w_nil ?_
            refine q_then (hK45 _ _ ?_)
            refine w_ret ?_
            refine q_then_ret ?_
            refine q_ret (l := [.tmp 4]) (vs := [_]) rfl ⟨⟨rfl, show _ = (.bool _ : Value) from rfl⟩, trivial⟩ ?_
            exact ⟨rfl, hs52.drop.drop.tail⟩
          ·
            exfalso
            try simp only [Bool.not_eq_true', Bool.not_eq_false', decide_eq_true_eq, decide_eq_false_iff_not, Int.not_lt, Int.not_le] at h49
            omega
        ·
          exfalso
          try simp only [Bool.not_eq_true', Bool.not_eq_false', decide_eq_true_eq, decide_eq_false_iff_not, Int.not_lt, Int.not_le] at h48
          omega
      ·
        exfalso
        try simp only [Bool.not_eq_true', Bool.not_eq_false', decide_eq_true_eq, decide_eq_false_iff_not, Int.not_lt, Int.not_le] at h47
        omega
    ·
      try simp only [Bool.not_eq_true', Bool.not_eq_false', decide_eq_true_eq, decide_eq_false_iff_not, Int.not_lt, Int.not_le] at h44
      refine w_skip ?_
      refine q_then (hK40 _ _ ?_)
      refine w_seq (fun K54 hK53 => ?_)
      have hph := plan_has hck (by assumption)
      have hpl := do_len hph.1
      have hpi := do_in hph.1
      have hpd := does_one.2 (do_full hph.1)
      have hpv := hph.2.1
      have hpb : does p (anyC p.farms.length y) = 1 → before p (anyC p.farms.length y) (planL p) = false := fun h => hph.2.2 _ (do_mem (any_all _ y) (does_one.1 h))
      refine w_region ?_
      refine w_pure want_none (y_loadN (vs := [_, _, _, _]) Try.isAgg26 Try.sizeOf26 hs39.drop.drop rfl rfl hbx2) rfl ?_
      refine w_pure want_none (y_move (v := .slice _ _ _) rfl rfl) rfl ?_
      refine w_call want_none Try.call38 rfl rfl rfl rfl (c38 p _ _ (by omega) _ _ (planL p) (by omega) h_B1.app hs39) ?_
      rintro _ w56 ⟨rfl, hs57⟩
      refine w_pure want_none (y_move (v := .bool _) rfl rfl) rfl ?_
      refine w_split (fun h58 => ?_) (fun h58 => ?_)
      ·
        try simp only [Bool.not_eq_true', Bool.not_eq_false', decide_eq_true_eq, decide_eq_false_iff_not, Int.not_lt, Int.not_le] at h58
        refine w_pure (want_yes rfl rfl rfl) (y_loadN (vs := [_, _, _, _]) Try.isAgg26 Try.sizeOf26 hs57.drop.drop rfl rfl hbx2) rfl ?_
        refine w_pure (want_yes rfl rfl rfl) (y_move (v := .slice _ _ _) rfl rfl) rfl ?_
        refine w_call (want_yes rfl rfl rfl) Try.call42 rfl rfl rfl rfl (c42 p _ _ ha.cons.app.app hok _ _ (planL p) hpl h_B1.app hpi hs57) ?_
        rintro _ w60 ⟨rfl, hs61⟩
        refine w_pure (want_yes rfl rfl rfl) (y_eql rfl rfl rfl rfl) rfl ?_
        refine w_pure want_none (y_pickT (v := .bool _) rfl rfl rfl rfl) rfl ?_
        refine w_pure want_none (y_move (v := .bool _) rfl rfl) rfl ?_
        refine w_split (fun h62 => ?_) (fun h62 => ?_)
        ·
          try simp only [Bool.not_eq_true', Bool.not_eq_false', decide_eq_true_eq, decide_eq_false_iff_not, Int.not_lt, Int.not_le] at h62
          refine w_pure (want_yes rfl rfl rfl) (y_loadN (vs := [_, _, _, _]) Try.isAgg26 Try.sizeOf26 hs61.drop.drop rfl rfl hbx2) rfl ?_
          refine w_pure (want_yes rfl rfl rfl) (y_move (v := .slice _ _ _) rfl rfl) rfl ?_
          refine w_call (want_yes rfl rfl rfl) Try.call43 rfl rfl rfl rfl (c43 p _ _ ha.cons.app.app hok _ _ (planL p) hpl h_B1.app hpi hs61) ?_
          rintro _ w64 ⟨rfl, hs65⟩
          refine w_pure (want_yes rfl rfl rfl) (y_move (v := .int _ _) rfl rfl) rfl ?_
          refine w_pure (want_yes rfl rfl rfl) (y_eql rfl rfl rfl rfl) rfl ?_
          refine w_pure want_none (y_pickT (v := .bool _) rfl rfl rfl rfl) rfl ?_
          refine w_pure want_none (y_move (v := .bool _) rfl rfl) rfl ?_
          refine w_split (fun h66 => ?_) (fun h66 => ?_)
          ·
            try simp only [Bool.not_eq_true', Bool.not_eq_false', decide_eq_true_eq, decide_eq_false_iff_not, Int.not_lt, Int.not_le] at h66
            refine w_pure (want_yes rfl rfl rfl) (y_move (v := .bool _) rfl rfl) rfl ?_
            refine w_pure (want_yes rfl rfl rfl) (y_not rfl rfl) rfl ?_
            refine w_pure (want_yes rfl rfl rfl) (y_move (v := .bool _) rfl rfl) rfl ?_
            refine w_split (fun h67 => ?_) (fun h67 => ?_)
            ·
              try simp only [Bool.not_eq_true', Bool.not_eq_false', decide_eq_true_eq, decide_eq_false_iff_not, Int.not_lt, Int.not_le] at h67
              refine w_skipop rfl rfl rfl ?_
              refine w_skipop rfl rfl rfl ?_
              refine w_skipop rfl rfl rfl ?_
              refine w_skipop rfl rfl rfl ?_
              refine w_skipop rfl rfl rfl ?_
              refine w_pure (want_yes rfl rfl rfl) (y_pickT (v := _) rfl rfl rfl rfl) rfl ?_
              refine w_pure want_none (y_pickT (v := .bool _) rfl rfl rfl rfl) rfl ?_
              refine w_pure want_none (y_move (v := .bool _) rfl rfl) rfl ?_
              refine w_call (want_yes rfl rfl rfl) Try.call23 rfl rfl rfl rfl (c23 hs65) ?_
              rintro _ w69 ⟨rfl, hs70⟩
              refine w_pure want_none (y_pickT (v := .bool _) rfl rfl rfl rfl) rfl ?_
              refine w_pure want_none (y_assign (v := .bool _) rfl rfl) rfl ?_
              refine w_nil ?_
              refine q_then (hK53 _ _ ?_)
              refine w_ret ?_
              refine q_ret (l := [.tmp 4]) (vs := [_]) rfl ⟨⟨rfl, show _ = (.bool _ : Value) from rfl⟩, trivial⟩ ?_
              exact ⟨rfl, hs70.drop.drop.tail⟩
            ·
              try simp only [Bool.not_eq_true', Bool.not_eq_false', decide_eq_true_eq, decide_eq_false_iff_not, Int.not_lt, Int.not_le] at h67
              refine w_pure (want_yes rfl rfl rfl) (y_loadN (vs := [_, _, _, _]) Try.isAgg26 Try.sizeOf26 hs65.drop.drop rfl rfl hbx2) rfl ?_
              refine w_pure (want_yes rfl rfl rfl) (y_move (v := .slice _ _ _) rfl rfl) rfl ?_
              refine w_pure (want_yes rfl rfl rfl) (y_move (v := .slice _ _ _) rfl rfl) rfl ?_
              refine w_call (want_yes rfl rfl rfl) Try.call44 rfl rfl rfl rfl (c44 p _ _ ha.cons.app.app hok _ _ (anyC p.farms.length y) (any_len _ _) h_B2 any_in _ _ (planL p) hpl h_B1.app hpi hs65) ?_
              rintro _ w72 ⟨rfl, hs73⟩
              refine w_pure (want_yes rfl rfl rfl) (y_not rfl rfl) rfl ?_
              refine w_pure (want_yes rfl rfl rfl) (y_pickF (v := .bool _) rfl rfl rfl rfl) rfl ?_
              refine w_pure want_none (y_pickT (v := .bool _) rfl rfl rfl rfl) rfl ?_
              refine w_pure want_none (y_move (v := .bool _) rfl rfl) rfl ?_
              refine w_split (fun h74 => ?_) (fun h74 => ?_)
              ·
                try simp only [Bool.not_eq_true', Bool.not_eq_false', decide_eq_true_eq, decide_eq_false_iff_not, Int.not_lt, Int.not_le] at h74
                refine w_call (want_yes rfl rfl rfl) Try.call23 rfl rfl rfl rfl (c23 hs73) ?_
                rintro _ w76 ⟨rfl, hs77⟩
                refine w_pure want_none (y_pickT (v := .bool _) rfl rfl rfl rfl) rfl ?_
                refine w_pure want_none (y_assign (v := .bool _) rfl rfl) rfl ?_
                refine w_nil ?_
                refine q_then (hK53 _ _ ?_)
                refine w_ret ?_
                refine q_ret (l := [.tmp 4]) (vs := [_]) rfl ⟨⟨rfl, show _ = (.bool _ : Value) from rfl⟩, trivial⟩ ?_
                exact ⟨rfl, hs77.drop.drop.tail⟩
              ·
                exfalso
                try simp only [Bool.not_eq_true', Bool.not_eq_false', decide_eq_true_eq, decide_eq_false_iff_not, Int.not_lt, Int.not_le] at h74
                simp [hpb (by assumption)] at h74
          ·
            exfalso
            try simp only [Bool.not_eq_true', Bool.not_eq_false', decide_eq_true_eq, decide_eq_false_iff_not, Int.not_lt, Int.not_le] at h66
            omega
        ·
          exfalso
          try simp only [Bool.not_eq_true', Bool.not_eq_false', decide_eq_true_eq, decide_eq_false_iff_not, Int.not_lt, Int.not_le] at h62
          omega
      ·
        exfalso
        try simp only [Bool.not_eq_true', Bool.not_eq_false', decide_eq_true_eq, decide_eq_false_iff_not, Int.not_lt, Int.not_le] at h58
        simp [fine_ok hpl hpi] at h58

end Go.Proofs
