/- Walks of this seat, printed by gen.py over the engine: what each function returns, in whatever world. No conditions but those of each contract. -/
import Derived.Test.YtofoabifbkhkfaaT
set_option linter.unusedVariables false
set_option linter.unusedSimpArgs false
set_option maxRecDepth 20000
namespace Go.Proofs
open Go.Rt
attribute [local irreducible] WL WC Con Yd At Ats Sl Agree DW

theorem quay_short (p : Port) (l : List Int) : (quayR p l).length ≤ 1000 := by
  unfold quayR
  split
  · rename_i h
    have hok := check_ok (enter_ok h).1
    have := hok.come
    unfold quay
    rw [List.length_map, loads_len]
    omega
  · simp
theorem c3 {w0 w : World} {F : List (Nat × Obj)} (p : Port) (a : Option Addr) (c : Nat) (hl3 : p.farms.length ≤ 9223372036854775807) (hc : p.farms.length ≤ c) (ha : Sl w0 F a 6 (rows p.farms)) (hnm : ∀ f ∈ p.farms, f.name.size ≤ 9223372036854775807) (al : Option Addr) (cl : Nat) (l : List Int) (hll : l.length ≤ 9223372036854775807) (hl : Sl w0 F al 1 (l.map fun x => [Value.int .i64 x])) (hs : St w0 w F) :
  Con Try.prog 3 [.agg (p.cells a c).toArray, .slice al l.length cl] w fun v w' => v = .bool true ∧ St w0 w' F := by
  refine con_of_wc (n := 82) Try.func3 rfl rfl (Nat.le_of_ble_eq_true rfl) ?_
  refine w_seq (fun K2 hK1 => ?_)
  refine w_region ?_
  refine w_box (v := .agg #[.int _ _, .int _ _, .int _ _, .slice _ _ _]) (cs := [_, _, _, _]) want_none rfl rfl rfl hs (fun b3 w4 hs5 => ?_)
  refine w_pure want_none (y_assign (v := _) rfl rfl) rfl ?_
  refine w_nil ?_
  refine q_then (hK1 _ _ ?_)
  refine w_seq (fun K7 hK6 => ?_)
  have hbx : Ats w0 ((b3, blk 26 (p.cells a c)) :: F) b3 0 (p.cells a c) := ats_own (i := 0) (vs := p.cells a c) rfl rfl
  refine w_region ?_
  refine w_pure want_none (y_loadN (vs := [_, _, _, _]) Try.isAgg26 Try.sizeOf26 hs5 rfl rfl hbx) rfl ?_
  refine w_call want_none Try.call16 rfl rfl rfl rfl (c16 p _ _ (by omega) (by omega) ha.cons hnm hs5) ?_
  rintro _ w9 ⟨rfl, hs10⟩
  refine w_pure want_none (y_move (v := .tuple _) rfl rfl) rfl ?_
  refine w_pure want_none (y_extract (v := .int _ _) rfl rfl rfl) rfl ?_
  refine w_pure want_none (y_extract (v := .int _ _) rfl rfl rfl) rfl ?_
  refine w_pure want_none (y_extract (v := .int _ _) rfl rfl rfl) rfl ?_
  refine w_pure want_none (y_assign (v := .int _ _) rfl rfl) rfl ?_
  refine w_pure want_none (y_assign (v := .int _ _) rfl rfl) rfl ?_
  refine w_pure want_none (y_assign (v := .int _ _) rfl rfl) rfl ?_
  refine w_nil ?_
  refine q_then (hK6 _ _ ?_)
  refine w_seq (fun K12 hK11 => ?_)
  refine w_region ?_
  refine w_pure want_none (y_loadN (vs := [_, _, _, _]) Try.isAgg26 Try.sizeOf26 hs10 rfl rfl hbx) rfl ?_
  refine w_call want_none Try.call17 rfl rfl rfl rfl (c17 p _ _ (by omega) (by omega) ha.cons hnm hs10) ?_
  rintro _ w14 ⟨rfl, hs15⟩
  refine w_pure want_none (y_move (v := .tuple _) rfl rfl) rfl ?_
  refine w_pure want_none (y_extract (v := .int _ _) rfl rfl rfl) rfl ?_
  refine w_pure want_none (y_extract (v := .int _ _) rfl rfl rfl) rfl ?_
  refine w_pure want_none (y_extract (v := .int _ _) rfl rfl rfl) rfl ?_
  refine w_pure want_none (y_assign (v := .int _ _) rfl rfl) rfl ?_
  refine w_pure want_none (y_assign (v := .int _ _) rfl rfl) rfl ?_
  refine w_pure want_none (y_assign (v := .int _ _) rfl rfl) rfl ?_
  refine w_nil ?_
  refine q_then (hK11 _ _ ?_)
  refine w_seq (fun K17 hK16 => ?_)
  refine w_seq (fun K19 hK18 => ?_)
  refine w_region ?_
  refine w_pure want_none (y_move (v := .int _ _) rfl rfl) rfl ?_
  refine w_pure want_none (y_move (v := .int _ _) rfl rfl) rfl ?_
  refine w_pure want_none (y_neq rfl rfl rfl rfl) rfl ?_
  refine w_pure want_none (y_move (v := .bool _) rfl rfl) rfl ?_
  refine w_split (fun h20 => ?_) (fun h20 => ?_)
  ·
    exfalso; simp at h20
  ·
    try simp only [Bool.not_eq_true', Bool.not_eq_false', decide_eq_true_eq, decide_eq_false_iff_not, Int.not_lt, Int.not_le] at h20
    refine w_pure (want_yes rfl rfl rfl) (y_move (v := .int _ _) rfl rfl) rfl ?_
    refine w_pure (want_yes rfl rfl rfl) (y_move (v := .int _ _) rfl rfl) rfl ?_
    refine w_pure (want_yes rfl rfl rfl) (y_neq rfl rfl rfl rfl) rfl ?_
    refine w_pure want_none (y_pickF (v := .bool _) rfl rfl rfl rfl) rfl ?_
    refine w_pure want_none (y_move (v := .bool _) rfl rfl) rfl ?_
    refine w_split (fun h21 => ?_) (fun h21 => ?_)
    ·
      exfalso; simp at h21
    ·
      try simp only [Bool.not_eq_true', Bool.not_eq_false', decide_eq_true_eq, decide_eq_false_iff_not, Int.not_lt, Int.not_le] at h21
      refine w_pure (want_yes rfl rfl rfl) (y_move (v := .int _ _) rfl rfl) rfl ?_
      refine w_pure (want_yes rfl rfl rfl) (y_move (v := .int _ _) rfl rfl) rfl ?_
      refine w_pure (want_yes rfl rfl rfl) (y_neq rfl rfl rfl rfl) rfl ?_
      refine w_pure want_none (y_pickF (v := .bool _) rfl rfl rfl rfl) rfl ?_
      refine w_nil ?_
      refine q_then (hK18 _ _ ?_)
      refine w_cond rfl rfl (fun h22 => ?_) (fun h22 => ?_)
      ·
        exfalso; simp at h22
      ·
        try simp only [Bool.not_eq_true', Bool.not_eq_false', decide_eq_true_eq, decide_eq_false_iff_not, Int.not_lt, Int.not_le] at h22
        refine w_skip ?_
        refine q_then (hK16 _ _ ?_)
        refine w_seq (fun K24 hK23 => ?_)
        refine w_region ?_
        refine w_pure want_none (y_loadN (vs := [_, _, _, _]) Try.isAgg26 Try.sizeOf26 hs15 rfl rfl hbx) rfl ?_
        refine w_pure want_none (y_move (v := .slice _ _ _) rfl rfl) rfl ?_
        refine w_call want_none Try.call18 rfl rfl rfl rfl (c18 p _ _ (by omega) (by omega) ha.cons hnm _ _ _ (by omega) hl.cons hs15) ?_
        rintro _ w26 ⟨B1, aq1, cq1, rfl, hq1, hs27⟩
        replace hs27 := (show St _ _ (B1 ++ (_ :: F)) from hs27)
        refine w_pure want_none (y_move (v := .tuple _) rfl rfl) rfl ?_
        refine w_pure want_none (y_extract (v := .slice _ _ _) rfl rfl rfl) rfl ?_
        refine w_pure want_none (y_extract (v := .int _ _) rfl rfl rfl) rfl ?_
        refine w_pure want_none (y_assign (v := .slice _ _ _) rfl rfl) rfl ?_
        refine w_pure want_none (y_assign (v := .int _ _) rfl rfl) rfl ?_
        refine w_nil ?_
        refine q_then (hK23 _ _ ?_)
        refine w_seq (fun K29 hK28 => ?_)
        refine w_region ?_
        refine w_pure want_none (y_loadN (vs := [_, _, _, _]) Try.isAgg26 Try.sizeOf26 hs27.drop rfl rfl hbx) rfl ?_
        refine w_pure want_none (y_move (v := .slice _ _ _) rfl rfl) rfl ?_
        refine w_call want_none Try.call19 rfl rfl rfl rfl (c19 p _ _ (by omega) (by omega) ha.cons.app hnm _ _ _ (by omega) hl.cons.app hs27) ?_
        rintro _ w31 ⟨B2, aq2, cq2, rfl, hq2, hs32⟩
        replace hs32 := (show St _ _ (B2 ++ (B1 ++ (_ :: F))) from hs32)
        refine w_pure want_none (y_move (v := .tuple _) rfl rfl) rfl ?_
        refine w_pure want_none (y_extract (v := .slice _ _ _) rfl rfl rfl) rfl ?_
        refine w_pure want_none (y_extract (v := .int _ _) rfl rfl rfl) rfl ?_
        refine w_pure want_none (y_assign (v := .slice _ _ _) rfl rfl) rfl ?_
        refine w_pure want_none (y_assign (v := .int _ _) rfl rfl) rfl ?_
        refine w_nil ?_
        refine q_then (hK28 _ _ ?_)
        refine w_seq (fun K34 hK33 => ?_)
        refine w_seq (fun K36 hK35 => ?_)
        refine w_region ?_
        refine w_pure want_none (y_move (v := .slice _ _ _) rfl rfl) rfl ?_
        refine w_pure want_none (y_move (v := .slice _ _ _) rfl rfl) rfl ?_
        refine w_call want_none Try.call20 rfl rfl rfl rfl (c20 _ _ (quayR p l) (quayR p l) _ _ (by have := quay_short p l; omega) (by have := quay_short p l; omega) hq1.app hq2 hs32) ?_
        rintro _ w38 ⟨rfl, hs39⟩
        refine w_pure want_none (y_not rfl rfl) rfl ?_
        refine w_pure want_none (y_move (v := .bool _) rfl rfl) rfl ?_
        refine w_split (fun h40 => ?_) (fun h40 => ?_)
        ·
          exfalso; simp at h40
        ·
          try simp only [Bool.not_eq_true', Bool.not_eq_false', decide_eq_true_eq, decide_eq_false_iff_not, Int.not_lt, Int.not_le] at h40
          refine w_pure (want_yes rfl rfl rfl) (y_move (v := .int _ _) rfl rfl) rfl ?_
          refine w_pure (want_yes rfl rfl rfl) (y_move (v := .int _ _) rfl rfl) rfl ?_
          refine w_pure (want_yes rfl rfl rfl) (y_neq rfl rfl rfl rfl) rfl ?_
          refine w_pure want_none (y_pickF (v := .bool _) rfl rfl rfl rfl) rfl ?_
          refine w_nil ?_
          refine q_then (hK35 _ _ ?_)
          refine w_cond rfl rfl (fun h41 => ?_) (fun h41 => ?_)
          ·
            exfalso; simp at h41
          ·
            try simp only [Bool.not_eq_true', Bool.not_eq_false', decide_eq_true_eq, decide_eq_false_iff_not, Int.not_lt, Int.not_le] at h41
            refine w_skip ?_
            refine q_then (hK33 _ _ ?_)
            refine w_seq (fun K43 hK42 => ?_)
            refine w_region ?_
            refine w_pure want_none (y_loadN (vs := [_, _, _, _]) Try.isAgg26 Try.sizeOf26 hs39.drop.drop rfl rfl hbx) rfl ?_
            refine w_pure want_none (y_move (v := .slice _ _ _) rfl rfl) rfl ?_
            refine w_call want_none Try.call21 rfl rfl rfl rfl (c21 p _ _ (by omega) (by omega) ha.cons.app.app hnm _ _ _ (by omega) hl.cons.app.app hs39) ?_
            rintro _ w45 ⟨rfl, hs46⟩
            refine w_pure want_none (y_move (v := .tuple _) rfl rfl) rfl ?_
            refine w_pure want_none (y_extract (v := .int _ _) rfl rfl rfl) rfl ?_
            refine w_pure want_none (y_extract (v := .int _ _) rfl rfl rfl) rfl ?_
            refine w_pure want_none (y_assign (v := .int _ _) rfl rfl) rfl ?_
            refine w_pure want_none (y_assign (v := .int _ _) rfl rfl) rfl ?_
            refine w_nil ?_
            refine q_then (hK42 _ _ ?_)
            refine w_seq (fun K48 hK47 => ?_)
            refine w_region ?_
            refine w_pure want_none (y_loadN (vs := [_, _, _, _]) Try.isAgg26 Try.sizeOf26 hs46.drop.drop rfl rfl hbx) rfl ?_
            refine w_pure want_none (y_move (v := .slice _ _ _) rfl rfl) rfl ?_
            refine w_call want_none Try.call22 rfl rfl rfl rfl (c22 p _ _ (by omega) (by omega) ha.cons.app.app hnm _ _ _ (by omega) hl.cons.app.app hs46) ?_
            rintro _ w50 ⟨rfl, hs51⟩
            refine w_pure want_none (y_move (v := .tuple _) rfl rfl) rfl ?_
            refine w_pure want_none (y_extract (v := .int _ _) rfl rfl rfl) rfl ?_
            refine w_pure want_none (y_extract (v := .int _ _) rfl rfl rfl) rfl ?_
            refine w_pure want_none (y_assign (v := .int _ _) rfl rfl) rfl ?_
            refine w_pure want_none (y_assign (v := .int _ _) rfl rfl) rfl ?_
            refine w_nil ?_
            refine q_then (hK47 _ _ ?_)
            refine w_seq (fun K53 hK52 => ?_)
            refine w_region ?_
            refine w_pure want_none (y_move (v := .int _ _) rfl rfl) rfl ?_
            refine w_pure want_none (y_move (v := .int _ _) rfl rfl) rfl ?_
            refine w_pure want_none (y_eql rfl rfl rfl rfl) rfl ?_
            refine w_pure want_none (y_move (v := .bool _) rfl rfl) rfl ?_
            refine w_split (fun h54 => ?_) (fun h54 => ?_)
            ·
              try simp only [Bool.not_eq_true', Bool.not_eq_false', decide_eq_true_eq, decide_eq_false_iff_not, Int.not_lt, Int.not_le] at h54
              refine w_pure (want_yes rfl rfl rfl) (y_move (v := .int _ _) rfl rfl) rfl ?_
              refine w_pure (want_yes rfl rfl rfl) (y_move (v := .int _ _) rfl rfl) rfl ?_
              refine w_pure (want_yes rfl rfl rfl) (y_eql rfl rfl rfl rfl) rfl ?_
              refine w_pure want_none (y_pickT (v := .bool _) rfl rfl rfl rfl) rfl ?_
              refine w_pure want_none (y_move (v := .bool _) rfl rfl) rfl ?_
              refine w_split (fun h55 => ?_) (fun h55 => ?_)
              ·
                try simp only [Bool.not_eq_true', Bool.not_eq_false', decide_eq_true_eq, decide_eq_false_iff_not, Int.not_lt, Int.not_le] at h55
                refine w_call (want_yes rfl rfl rfl) Try.call23 rfl rfl rfl rfl (c23 hs51) ?_
                rintro _ w57 ⟨rfl, hs58⟩
                refine w_pure want_none (y_pickT (v := .bool _) rfl rfl rfl rfl) rfl ?_
                refine w_pure want_none (y_assign (v := .bool _) rfl rfl) rfl ?_
                refine w_nil ?_
                refine q_then (hK52 _ _ ?_)
                refine w_ret ?_
                refine q_ret (l := [.tmp 4]) (vs := [_]) rfl ⟨⟨rfl, show _ = (.bool _ : Value) from rfl⟩, trivial⟩ ?_
                exact ⟨rfl, hs58.drop.drop.tail⟩
              ·
                exfalso; simp at h55
            ·
              exfalso; simp at h54

end Go.Proofs
