/- Walks of this seat, printed by gen.py over the engine: what each function returns, in whatever world. No conditions but those of each contract. -/
import Derived.Test.YtofoabifbkhkfaaZc
set_option linter.unusedVariables false
set_option linter.unusedSimpArgs false
set_option maxRecDepth 20000
namespace Go.Proofs
open Go.Rt
attribute [local irreducible] WL WC Con Yd At Ats Sl Agree DW

theorem vb3 {n m : Int} {x y : Bool} {a b : Int} (h : n = m) (h2 : x = y) (k : a = b) : [Value.int .i64 n, Value.bool x, Value.int .i64 a] = [Value.int .i64 m, Value.bool y, Value.int .i64 b] := by rw [h, h2, k]
theorem iff_dec {a : Prop} [Decidable a] {b : Prop} [Decidable b] (h : a ↔ b) : decide a = decide b := by simp [h]
theorem c12 {w0 w : World} {F : List (Nat × Obj)} (p : Port) (a : Option Addr) (c : Nat) (hl3 : p.farms.length ≤ 9223372036854775807) (hc : p.farms.length ≤ c) (ha : Sl w0 F a 6 (rows p.farms)) (hnm : ∀ f ∈ p.farms, f.name.size ≤ 9223372036854775807) (x0 x1 : Int) (hx0 : 0 ≤ x0 ∧ x0 ≤ 255) (hx1 : 0 ≤ x1 ∧ x1 ≤ 255) (hs : St w0 w F) :
  Con Try.prog 12 [.agg (p.cells a c).toArray, .agg #[.int .u8 x0, .int .u8 x1]] w fun v w' => v = .bool true ∧ St w0 w' F := by
  refine con_of_wc (n := 158) Try.func12 rfl rfl (Nat.le_of_ble_eq_true rfl) ?_
  refine w_seq (fun K2 hK1 => ?_)
  refine w_region ?_
  refine w_box (v := .agg #[.int _ _, .int _ _, .int _ _, .slice _ _ _]) (cs := [_, _, _, _]) want_none rfl rfl rfl hs (fun b3 w4 hs5 => ?_)
  refine w_box (v := .agg #[.int _ _, .int _ _]) (cs := [_, _]) want_none rfl rfl rfl hs5 (fun b6 w7 hs8 => ?_)
  refine w_pure want_none (y_assign (v := _) rfl rfl) rfl ?_
  refine w_nil ?_
  refine q_then (hK1 _ _ ?_)
  refine w_seq (fun K10 hK9 => ?_)
  refine w_seq (fun K12 hK11 => ?_)
  have hbx2 : Ats w0 ((b3, blk 26 (p.cells a c)) :: F) b3 0 (p.cells a c) := ats_own (i := 0) (vs := (p.cells a c)) rfl rfl
  refine w_region ?_
  refine w_pure want_none (y_loadN (vs := [_, _, _, _]) Try.isAgg26 Try.sizeOf26 hs8.tail rfl rfl hbx2) rfl ?_
  refine w_call want_none Try.call37 rfl rfl rfl rfl (c37 p _ _ (by omega) (by omega) ha.cons.cons hnm hs8) ?_
  rintro _ w14 ⟨rfl, hs15⟩
  refine w_pure want_none (y_not rfl rfl) rfl ?_
  refine w_nil ?_
  refine q_then (hK11 _ _ ?_)
  refine w_cond rfl rfl (fun h16 => ?_) (fun h16 => ?_)
  ·
    try simp only [Bool.not_eq_true', Bool.not_eq_false', decide_eq_true_eq, decide_eq_false_iff_not, Int.not_lt, Int.not_le] at h16
    refine w_seq (fun K18 hK17 => ?_)
    refine w_region ?_
    refine w_pure want_none (y_loadN (vs := [_, _, _, _]) Try.isAgg26 Try.sizeOf26 hs15.tail rfl rfl hbx2) rfl ?_
    refine w_call want_none Try.call33 rfl rfl rfl rfl (c33 p _ _ (by omega) (by omega) ha.cons.cons hnm 0 hs15) ?_
    rintro _ w20 ⟨rfl, hs21⟩
    refine w_pure want_none (y_move (v := .tuple _) rfl rfl) rfl ?_
    refine w_pure want_none (y_extract (v := .int _ _) rfl rfl rfl) rfl ?_
    refine w_pure want_none (y_extract (v := .int _ _) rfl rfl rfl) rfl ?_
    refine w_pure want_none (y_assign (v := .int _ _) rfl rfl) rfl ?_
    refine w_pure want_none (y_assign (v := .int _ _) rfl rfl) rfl ?_
    refine w_nil ?_
    refine q_then (hK17 _ _ ?_)
    refine w_seq (fun K23 hK22 => ?_)
    refine w_region ?_
    refine w_pure want_none (y_move (v := .int _ _) rfl rfl) rfl ?_
    refine w_pure want_none (y_neq rfl rfl rfl rfl) rfl ?_
    refine w_pure want_none (y_move (v := .bool _) rfl rfl) rfl ?_
    refine w_split (fun h24 => ?_) (fun h24 => ?_)
    ·
      try simp only [Bool.not_eq_true', Bool.not_eq_false', decide_eq_true_eq, decide_eq_false_iff_not, Int.not_lt, Int.not_le] at h24
      refine w_call (want_yes rfl rfl rfl) Try.call23 rfl rfl rfl rfl (c23 hs21) ?_
      rintro _ w26 ⟨rfl, hs27⟩
      refine w_pure want_none (y_pickT (v := .bool _) rfl rfl rfl rfl) rfl ?_
      refine w_pure want_none (y_assign (v := .bool _) rfl rfl) rfl ?_
      refine w_nil ?_
      refine q_then (hK22 _ _ ?_)
      refine w_ret ?_
      refine q_then_ret ?_
      refine q_ret (l := [.tmp 4]) (vs := [_]) rfl ⟨⟨rfl, show _ = (.bool _ : Value) from rfl⟩, trivial⟩ ?_
      exact ⟨rfl, hs27.tail.tail⟩
    ·
      exfalso
      try simp only [Bool.not_eq_true', Bool.not_eq_false', decide_eq_true_eq, decide_eq_false_iff_not, Int.not_lt, Int.not_le] at h24
      have hpe := (told_e1 (p := p) (z := 0) (by assumption)).2; omega
  ·
    try simp only [Bool.not_eq_true', Bool.not_eq_false', decide_eq_true_eq, decide_eq_false_iff_not, Int.not_lt, Int.not_le] at h16
    refine w_skip ?_
    refine q_then (hK9 _ _ ?_)
    refine w_seq (fun K29 hK28 => ?_)
    have hck : (check p).2.2 = 0 := by assumption
    have hok := check_ok hck
    have hlen3 := hok.len
    have hcome := hok.come
    have hpe := plan_e09 hck
    refine w_draw [] [(0, 0), (1, 1), (2, 0), (3, 0), (4, 0), (5, 1), (6, 0), (7, 0), (8, 0), (9, 0)] Try_mo (by kernel_rfl) hs15 (fun w30 hs31 => ?_)
    refine d_any rfl want_none rfl (fun _ => (y_indexA Try.underlying65 Try.sizeOf5 rfl rfl rfl rfl (i := 0) rfl (by omega))) ?_
    refine d_take rfl want_none rfl hs31 (fun _ hq => (y_load1 Try.isAgg5 hq rfl rfl (ats_own (i := 0) (vs := [_]) rfl rfl))) ?_
    refine d_any rfl want_none rfl (fun _ => (y_u8int (by rw [Try.underlying5]; rfl) Try.underlying3 rfl rfl (by omega) (by omega))) ?_
    refine d_any rfl want_none rfl (fun _ => (y_rem rfl rfl rfl rfl (by omega) (by omega))) ?_
    refine d_any rfl want_none rfl (fun _ => (y_indexA Try.underlying65 Try.sizeOf5 rfl rfl rfl rfl (i := 1) rfl (by omega))) ?_
    refine d_take rfl want_none rfl hs31 (fun _ hq => (y_load1 Try.isAgg5 hq rfl rfl (ats_own (i := 0) (vs := [_]) rfl rfl))) ?_
    refine d_any rfl want_none rfl (fun _ => (y_u8int (by rw [Try.underlying5]; rfl) Try.underlying3 rfl rfl (by omega) (by omega))) ?_
    refine d_any rfl want_none rfl (fun _ => (y_rem rfl rfl rfl rfl (by omega) (by omega))) ?_
    refine d_any rfl want_none rfl (fun _ => (y_assign (v := .int _ _) rfl rfl)) ?_
    refine d_any rfl want_none rfl (fun _ => (y_assign (v := .int _ _) rfl rfl)) ?_
    refine d_nil ?_
    refine q_then (hK28 _ _ ?_)
    refine w_seq (fun K33 hK32 => ?_)
    have hm1 : 0 ≤ x0 % 11 ∧ x0 % 11 < 11 := by omega
    have hm2 : 0 ≤ x1 % 11 ∧ x1 % 11 < 11 := by omega
    have ht := told_two hck (x := min (x0 % 11) (x1 % 11)) (y := max (x0 % 11) (x1 % 11)) (by omega) (by omega) (by omega)
    generalize x0 % 11 = A at hm1 ht ⊢
    generalize x1 % 11 = B at hm2 ht ⊢
    obtain ⟨ht1, ht2, ht3, ht4⟩ := ht
    generalize hzx : min A B = X at ht1 ht2 ht3 ht4
    generalize hzy : max A B = Y at ht1 ht2 ht3 ht4
    refine w_region ?_
    refine w_pure want_none (y_loadN (vs := [_, _, _, _]) Try.isAgg26 Try.sizeOf26 hs31.tail rfl rfl hbx2) rfl ?_
    refine w_pure want_none (y_move (v := .int _ _) rfl rfl) rfl ?_
    refine w_pure want_none (y_move (v := .int _ _) rfl rfl) rfl ?_
    refine w_pure want_none (y_min2 rfl rfl rfl rfl) rfl ?_
    refine w_call want_none Try.call33 rfl rfl rfl rfl (by rw [hzx]; exact c33 p _ _ (by omega) (by omega) ha.cons.cons hnm X hs31) ?_
    rintro _ w35 ⟨rfl, hs36⟩
    refine w_pure want_none (y_move (v := .tuple _) rfl rfl) rfl ?_
    refine w_pure want_none (y_extract (v := .int _ _) rfl rfl rfl) rfl ?_
    refine w_pure want_none (y_extract (v := .int _ _) rfl rfl rfl) rfl ?_
    refine w_pure want_none (y_assign (v := .int _ _) rfl rfl) rfl ?_
    refine w_pure want_none (y_assign (v := .int _ _) rfl rfl) rfl ?_
    refine w_nil ?_
    refine q_then (hK32 _ _ ?_)
    refine w_seq (fun K38 hK37 => ?_)
    refine w_region ?_
    refine w_pure want_none (y_loadN (vs := [_, _, _, _]) Try.isAgg26 Try.sizeOf26 hs36.tail rfl rfl hbx2) rfl ?_
    refine w_pure want_none (y_move (v := .int _ _) rfl rfl) rfl ?_
    refine w_pure want_none (y_move (v := .int _ _) rfl rfl) rfl ?_
    refine w_pure want_none (y_max2 rfl rfl rfl rfl) rfl ?_
    refine w_call want_none Try.call33 rfl rfl rfl rfl (by rw [hzy]; exact c33 p _ _ (by omega) (by omega) ha.cons.cons hnm Y hs36) ?_
    rintro _ w40 ⟨rfl, hs41⟩
    refine w_pure want_none (y_move (v := .tuple _) rfl rfl) rfl ?_
    refine w_pure want_none (y_extract (v := .int _ _) rfl rfl rfl) rfl ?_
    refine w_pure want_none (y_extract (v := .int _ _) rfl rfl rfl) rfl ?_
    refine w_pure want_none (y_assign (v := .int _ _) rfl rfl) rfl ?_
    refine w_pure want_none (y_assign (v := .int _ _) rfl rfl) rfl ?_
    refine w_nil ?_
    refine q_then (hK37 _ _ ?_)
    refine w_seq (fun K43 hK42 => ?_)
    refine w_region ?_
    refine w_pure want_none (y_loadN (vs := [_, _, _, _]) Try.isAgg26 Try.sizeOf26 hs41.tail rfl rfl hbx2) rfl ?_
    refine w_call want_none Try.call26 rfl rfl rfl rfl (c26 p _ _ (by omega) (by omega) ha.cons.cons hnm hs41) ?_
    rintro _ w45 ⟨B1, aq_B1, cq_B1, rfl, h_B1, hs46⟩
    replace hs46 := (show St _ _ (B1 ++ (_ :: _ :: F)) from hs46)
    refine w_pure want_none (y_move (v := .tuple _) rfl rfl) rfl ?_
    refine w_pure want_none (y_extract (v := .slice _ _ _) rfl rfl rfl) rfl ?_
    refine w_pure want_none (y_extract (v := .int _ _) rfl rfl rfl) rfl ?_
    refine w_pure want_none (y_extract (v := .int _ _) rfl rfl rfl) rfl ?_
    refine w_pure want_none (y_assign (v := .slice _ _ _) rfl rfl) rfl ?_
    refine w_pure want_none (y_assign (v := .int _ _) rfl rfl) rfl ?_
    refine w_pure want_none (y_assign (v := .int _ _) rfl rfl) rfl ?_
    refine w_nil ?_
    refine q_then (hK42 _ _ ?_)
    refine w_seq (fun K48 hK47 => ?_)
    refine w_seq (fun K50 hK49 => ?_)
    refine w_region ?_
    refine w_pure want_none (y_move (v := .int _ _) rfl rfl) rfl ?_
    refine w_pure want_none (y_neq rfl rfl rfl rfl) rfl ?_
    refine w_pure want_none (y_move (v := .bool _) rfl rfl) rfl ?_
    refine w_split (fun h51 => ?_) (fun h51 => ?_)
    ·
      try simp only [Bool.not_eq_true', Bool.not_eq_false', decide_eq_true_eq, decide_eq_false_iff_not, Int.not_lt, Int.not_le] at h51
      refine w_pure (want_yes rfl rfl rfl) (y_move (v := .int _ _) rfl rfl) rfl ?_
      refine w_pure (want_yes rfl rfl rfl) (y_neq rfl rfl rfl rfl) rfl ?_
      refine w_pure (want_yes rfl rfl rfl) (y_move (v := .bool _) rfl rfl) rfl ?_
      refine w_split (fun h52 => ?_) (fun h52 => ?_)
      ·
        exfalso
        try simp only [Bool.not_eq_true', Bool.not_eq_false', decide_eq_true_eq, decide_eq_false_iff_not, Int.not_lt, Int.not_le] at h52
        omega
      ·
        try simp only [Bool.not_eq_true', Bool.not_eq_false', decide_eq_true_eq, decide_eq_false_iff_not, Int.not_lt, Int.not_le] at h52
        refine w_pure (want_yes rfl rfl rfl) (y_move (v := .int _ _) rfl rfl) rfl ?_
        refine w_pure (want_yes rfl rfl rfl) (y_neq rfl rfl rfl rfl) rfl ?_
        refine w_pure (want_yes rfl rfl rfl) (y_pickF (v := .bool _) rfl rfl rfl rfl) rfl ?_
        refine w_pure (want_yes rfl rfl rfl) (y_move (v := .bool _) rfl rfl) rfl ?_
        refine w_split (fun h53 => ?_) (fun h53 => ?_)
        ·
          exfalso
          try simp only [Bool.not_eq_true', Bool.not_eq_false', decide_eq_true_eq, decide_eq_false_iff_not, Int.not_lt, Int.not_le] at h53
          omega
        ·
          try simp only [Bool.not_eq_true', Bool.not_eq_false', decide_eq_true_eq, decide_eq_false_iff_not, Int.not_lt, Int.not_le] at h53
          refine w_pure (want_yes rfl rfl rfl) (y_move (v := .int _ _) rfl rfl) rfl ?_
          refine w_pure (want_yes rfl rfl rfl) (y_neq rfl rfl rfl rfl) rfl ?_
          refine w_pure (want_yes rfl rfl rfl) (y_pickF (v := .bool _) rfl rfl rfl rfl) rfl ?_
          refine w_pure want_none (y_pickT (v := .bool _) rfl rfl rfl rfl) rfl ?_
          refine w_nil ?_
          refine q_then (hK49 _ _ ?_)
          refine w_cond rfl rfl (fun h54 => ?_) (fun h54 => ?_)
          ·
            exfalso
            try simp only [Bool.not_eq_true', Bool.not_eq_false', decide_eq_true_eq, decide_eq_false_iff_not, Int.not_lt, Int.not_le] at h54
            omega
          ·
            try simp only [Bool.not_eq_true', Bool.not_eq_false', decide_eq_true_eq, decide_eq_false_iff_not, Int.not_lt, Int.not_le] at h54
            refine w_skip ?_
            refine q_then (hK47 _ _ ?_)
            refine w_seq (fun K56 hK55 => ?_)
            refine w_seq (fun K58 hK57 => ?_)
            refine w_region ?_
            refine w_pure want_none (y_move (v := .int _ _) rfl rfl) rfl ?_
            refine w_pure want_none (y_eql rfl rfl rfl rfl) rfl ?_
            refine w_pure want_none (y_move (v := .bool _) rfl rfl) rfl ?_
            refine w_split (fun h59 => ?_) (fun h59 => ?_)
            ·
              try simp only [Bool.not_eq_true', Bool.not_eq_false', decide_eq_true_eq, decide_eq_false_iff_not, Int.not_lt, Int.not_le] at h59
              refine w_pure (want_yes rfl rfl rfl) (y_move (v := .int _ _) rfl rfl) rfl ?_
              refine w_pure (want_yes rfl rfl rfl) (y_move (v := .int _ _) rfl rfl) rfl ?_
              refine w_pure (want_yes rfl rfl rfl) (y_gtr rfl rfl rfl rfl) rfl ?_
              refine w_pure want_none (y_pickT (v := .bool _) rfl rfl rfl rfl) rfl ?_
              refine w_pure want_none (y_move (v := .bool _) rfl rfl) rfl ?_
              refine w_split (fun h60 => ?_) (fun h60 => ?_)
              ·
                exfalso
                try simp only [Bool.not_eq_true', Bool.not_eq_false', decide_eq_true_eq, decide_eq_false_iff_not, Int.not_lt, Int.not_le] at h60
                omega
              ·
                try simp only [Bool.not_eq_true', Bool.not_eq_false', decide_eq_true_eq, decide_eq_false_iff_not, Int.not_lt, Int.not_le] at h60
                refine w_pure (want_yes rfl rfl rfl) (y_move (v := .int _ _) rfl rfl) rfl ?_
                refine w_pure (want_yes rfl rfl rfl) (y_eql rfl rfl rfl rfl) rfl ?_
                refine w_pure (want_yes rfl rfl rfl) (y_move (v := .bool _) rfl rfl) rfl ?_
                refine w_split (fun h61 => ?_) (fun h61 => ?_)
                ·
                  try simp only [Bool.not_eq_true', Bool.not_eq_false', decide_eq_true_eq, decide_eq_false_iff_not, Int.not_lt, Int.not_le] at h61
                  refine w_pure (want_yes rfl rfl rfl) (y_move (v := .int _ _) rfl rfl) rfl ?_
                  refine w_pure (want_yes rfl rfl rfl) (y_neq rfl rfl rfl rfl) rfl ?_
                  refine w_pure (want_yes rfl rfl rfl) (y_move (v := .bool _) rfl rfl) rfl ?_
                  refine w_split (fun h62 => ?_) (fun h62 => ?_)
                  ·
                    exfalso
                    try simp only [Bool.not_eq_true', Bool.not_eq_false', decide_eq_true_eq, decide_eq_false_iff_not, Int.not_lt, Int.not_le] at h62
                    omega
                  ·
                    try simp only [Bool.not_eq_true', Bool.not_eq_false', decide_eq_true_eq, decide_eq_false_iff_not, Int.not_lt, Int.not_le] at h62
                    refine w_pure (want_yes rfl rfl rfl) (y_move (v := .int _ _) rfl rfl) rfl ?_
                    refine w_pure (want_yes rfl rfl rfl) (y_move (v := .int _ _) rfl rfl) rfl ?_
                    refine w_pure (want_yes rfl rfl rfl) (y_gtr rfl rfl rfl rfl) rfl ?_
                    refine w_pure (want_yes rfl rfl rfl) (y_pickF (v := .bool _) rfl rfl rfl rfl) rfl ?_
                    refine w_pure (want_yes rfl rfl rfl) (y_pickT (v := .bool _) rfl rfl rfl rfl) rfl ?_
                    refine w_pure want_none (y_pickF (v := .bool _) rfl rfl rfl rfl) rfl ?_
                    refine w_nil ?_
                    refine q_then (hK57 _ _ ?_)
                    refine w_cond rfl rfl (fun h63 => ?_) (fun h63 => ?_)
                    ·
                      exfalso
                      try simp only [Bool.not_eq_true', Bool.not_eq_false', decide_eq_true_eq, decide_eq_false_iff_not, Int.not_lt, Int.not_le] at h63
                      omega
                    ·
                      try simp only [Bool.not_eq_true', Bool.not_eq_false', decide_eq_true_eq, decide_eq_false_iff_not, Int.not_lt, Int.not_le] at h63
                      refine w_skip ?_
                      refine q_then (hK55 _ _ ?_)
                      refine w_seq (fun K65 hK64 => ?_)
                      refine w_region ?_
                      refine w_pure want_none (y_loadN (vs := [_, _, _, _]) Try.isAgg26 Try.sizeOf26 hs46.drop.tail rfl rfl hbx2) rfl ?_
                      refine w_call want_none Try.call33 rfl rfl rfl rfl (c33 p _ _ (by omega) (by omega) ha.cons.cons.app hnm 0 hs46) ?_
                      rintro _ w67 ⟨rfl, hs68⟩
                      refine w_pure want_none (y_move (v := .tuple _) rfl rfl) rfl ?_
                      refine w_pure want_none (y_extract (v := .int _ _) rfl rfl rfl) rfl ?_
                      refine w_pure want_none (y_extract (v := .int _ _) rfl rfl rfl) rfl ?_
                      refine w_pure want_none (y_assign (v := .int _ _) rfl rfl) rfl ?_
                      refine w_pure want_none (y_assign (v := .int _ _) rfl rfl) rfl ?_
                      refine w_nil ?_
                      refine q_then (hK64 _ _ ?_)
                      refine w_seq (fun K70 hK69 => ?_)
                      have htz := told_zero hck
                      refine w_region ?_
                      refine w_pure want_none (y_assign (v := _) rfl rfl) rfl ?_
                      refine w_pure want_none (y_assign (v := _) rfl rfl) rfl ?_
                      refine w_nil ?_
                      refine q_then (hK69 _ _ ?_)
                      refine w_seq (fun K72 hK71 => ?_)
                      refine w_seq (fun K74 hK73 => ?_)
                      refine w_region ?_
                      refine w_pure want_none (y_fieldAddr (o := 1) (i := 1) Try.underlying26 rfl Try.sizeOf23 rfl rfl rfl) rfl ?_
                      refine w_pure want_none (y_fieldAddr (o := 0) (i := 0) Try.underlying23 rfl Try.sizeOf3 rfl rfl rfl) rfl ?_
                      refine w_pure want_none (y_load1 Try.isAgg3 hs68.drop.tail rfl rfl (show Ats _ _ _ _ [_] from Ats.part hbx2 1 1)) rfl ?_
                      refine w_pure want_none (y_assign (v := .int _ _) rfl rfl) rfl ?_
                      refine w_nil ?_
                      refine q_then (hK73 _ _ ?_)
                      refine w_block ?_
                      refine w_loop [4, 18, 19, 20, 21, 22, 23, 24, 110, 111, 112, 113, 114, 115, 116, 117, 118, 119, 120, 121, 122, 123, 124, 125, 126, 127, 128, 129, 130, 131, 132, 133, 134, 135, 136, 137, 138, 139, 140, 141] [18, 19, 20] (fun kk vs w => ∃ (q : Nat) (m : Bool), m = !(fullTUpto p (never_ p.farms.length) 0 q) ∧ vs = [.int .i64 0, .bool m, .int .i64 (p.clo + q)] ∧ (q : Int) ≤ p.chi - p.clo + 1 ∧ kk = (p.chi - p.clo + 1 - q).toNat ∧ St w0 w (B1 ++ ((b6, blk 65 [.int .u8 x0, .int .u8 x1]) :: (b3, blk 26 (p.cells a c)) :: F))) ((p.chi - p.clo + 1).toNat) ?_ ?_
                      ·
                        exact ⟨0, false, by simp [fullTUpto], vb3 rfl rfl (by omega), by omega, by simp, hs68⟩
                      ·
                        intro k vs μ w77 hI K76 hN75
                        obtain ⟨q, m, hm, rfl, hq, rfl, hs⟩ := hI
                        refine w_seq (fun K79 hK78 => ?_)
                        refine w_seq (fun K81 hK80 => ?_)
                        refine w_region ?_
                        refine w_pure want_none (y_move (v := .int _ _) rfl rfl) rfl ?_
                        refine w_pure want_none (y_fieldAddr (o := 1) (i := 1) Try.underlying26 rfl Try.sizeOf23 rfl rfl rfl) rfl ?_
                        refine w_pure want_none (y_fieldAddr (o := 1) (i := 1) Try.underlying23 rfl Try.sizeOf3 rfl rfl rfl) rfl ?_
                        refine w_pure want_none (y_load1 Try.isAgg3 hs.drop.tail rfl rfl (show Ats _ _ _ _ [_] from Ats.part hbx2 2 1)) rfl ?_
                        refine w_pure want_none (y_leq rfl rfl rfl rfl) rfl ?_
                        refine w_nil ?_
                        refine q_then (hK80 _ _ ?_)
                        refine w_cond rfl rfl (fun h82 => ?_) (fun h82 => ?_)
                        ·
                          try simp only [Bool.not_eq_true', Bool.not_eq_false', decide_eq_true_eq, decide_eq_false_iff_not, Int.not_lt, Int.not_le] at h82
                          refine w_skip ?_
                          refine q_then (hK78 _ _ ?_)
                          refine w_seq (fun K84 hK83 => ?_)
                          refine w_block ?_
                          refine w_seq (fun K86 hK85 => ?_)
                          refine w_region ?_
                          refine w_pure want_none (y_loadN (vs := [_, _, _, _]) Try.isAgg26 Try.sizeOf26 hs.drop.tail rfl rfl hbx2) rfl ?_
                          refine w_alloc (cs := [_, _, _, _]) want_none Try.zeroValue26 rfl hs (fun b87 w88 hs89 => ?_)
                          refine w_store (i := 0) (v := .agg #[.int _ _, .int _ _, .int _ _, .slice _ _ _]) (vs := [_, _, _, _]) want_none Try.sizeOf26 rfl rfl rfl rfl rfl (by simp [Value.oneCell']) hs89 rfl (Nat.le_of_ble_eq_true rfl) (fun w90 hs91 => ?_)
                          refine w_nil ?_
                          refine q_then (hK85 _ _ ?_)
                          refine w_seq (fun K93 hK92 => ?_)
                          have hone : (oneP p (p.clo + q)).farms.length = p.farms.length := rfl
                          have hday1 : p.clo ≤ p.clo + q := by omega
                          have hday2 : p.clo + q ≤ p.chi := by omega
                          obtain ⟨ho1, ho2, ho3⟩ := one_plan hck hday1 hday2
                          refine w_region ?_
                          refine w_pure want_none (y_move (v := .int _ _) rfl rfl) rfl ?_
                          refine w_pure want_none (y_move (v := .int _ _) rfl rfl) rfl ?_
                          refine w_call want_none Try.call36 rfl rfl rfl rfl (c36 _ _ hs91) ?_
                          rintro _ w95 ⟨rfl, hs96⟩
                          refine w_pure want_none (y_fieldAddr (o := 1) (i := 1) Try.underlying26 rfl Try.sizeOf23 rfl rfl rfl) rfl ?_
                          refine w_store (i := 0) (v := .agg #[.int _ _, .int _ _]) (vs := [_, _]) want_none Try.sizeOf23 rfl rfl rfl rfl rfl (by simp [Value.oneCell']) hs96 rfl (Nat.le_of_ble_eq_true rfl) (fun w97 hs98 => ?_)
                          refine w_nil ?_
                          refine q_then (hK92 _ _ ?_)
                          refine w_seq (fun K100 hK99 => ?_)
                          refine w_region ?_
                          refine w_pure want_none (y_loadN (vs := [_, _, _, _]) Try.isAgg26 Try.sizeOf26 hs98 rfl rfl (ats_own (i := 0) (vs := [_, _, _, _]) rfl rfl)) rfl ?_
                          refine w_call want_none Try.call26 rfl rfl rfl rfl (c26 (oneP p (p.clo + q)) _ _ (by omega) (by omega) ha.cons.cons.app.cons hnm hs98) ?_
                          rintro _ w102 ⟨B3, aq_B3, cq_B3, rfl, h_B3, hs103⟩
                          replace hs103 := (show St _ _ (B3 ++ (_ :: B1 ++ (_ :: _ :: F))) from hs103)
                          refine w_pure want_none (y_move (v := .tuple _) rfl rfl) rfl ?_
                          refine w_pure want_none (y_extract (v := .slice _ _ _) rfl rfl rfl) rfl ?_
                          refine w_pure want_none (y_extract (v := .int _ _) rfl rfl rfl) rfl ?_
                          refine w_pure want_none (y_extract (v := .int _ _) rfl rfl rfl) rfl ?_
                          refine w_pure want_none (y_assign (v := .slice _ _ _) rfl rfl) rfl ?_
                          refine w_pure want_none (y_assign (v := .int _ _) rfl rfl) rfl ?_
                          refine w_pure want_none (y_assign (v := .int _ _) rfl rfl) rfl ?_
                          refine w_nil ?_
                          refine q_then (hK99 _ _ ?_)
                          refine w_seq (fun K105 hK104 => ?_)
                          refine w_seq (fun K107 hK106 => ?_)
                          refine w_region ?_
                          refine w_pure want_none (y_move (v := .int _ _) rfl rfl) rfl ?_
                          refine w_pure want_none (y_neq rfl rfl rfl rfl) rfl ?_
                          refine w_pure want_none (y_move (v := .bool _) rfl rfl) rfl ?_
                          refine w_split (fun h108 => ?_) (fun h108 => ?_)
                          ·
                            try simp only [Bool.not_eq_true', Bool.not_eq_false', decide_eq_true_eq, decide_eq_false_iff_not, Int.not_lt, Int.not_le] at h108
                            refine w_pure (want_yes rfl rfl rfl) (y_move (v := .int _ _) rfl rfl) rfl ?_
                            refine w_pure (want_yes rfl rfl rfl) (y_neq rfl rfl rfl rfl) rfl ?_
                            refine w_pure want_none (y_pickT (v := .bool _) rfl rfl rfl rfl) rfl ?_
                            refine w_nil ?_
                            refine q_then (hK106 _ _ ?_)
                            refine w_cond rfl rfl (fun h109 => ?_) (fun h109 => ?_)
                            ·
                              exfalso
                              try simp only [Bool.not_eq_true', Bool.not_eq_false', decide_eq_true_eq, decide_eq_false_iff_not, Int.not_lt, Int.not_le] at h109
                              omega
                            ·
                              try simp only [Bool.not_eq_true', Bool.not_eq_false', decide_eq_true_eq, decide_eq_false_iff_not, Int.not_lt, Int.not_le] at h109
                              refine w_skip ?_
                              refine q_then (hK104 _ _ ?_)
                              refine w_region ?_
                              refine w_pure want_none (y_move (v := .int _ _) rfl rfl) rfl ?_
                              refine w_pure want_none (y_move (v := .int _ _) rfl rfl) rfl ?_
                              refine w_pure want_none (y_max2 rfl rfl rfl rfl) rfl ?_
                              refine w_pure want_none (y_move (v := .bool _) rfl rfl) rfl ?_
                              refine w_pure want_none (y_move (v := .bool _) rfl rfl) rfl ?_
                              refine w_split (fun h110 => ?_) (fun h110 => ?_)
                              ·
                                try simp only [Bool.not_eq_true', Bool.not_eq_false', decide_eq_true_eq, decide_eq_false_iff_not, Int.not_lt, Int.not_le] at h110
                                refine w_skipop rfl rfl rfl ?_
                                refine w_skipop rfl rfl rfl ?_
                                refine w_pure want_none (y_pickT (v := _) rfl rfl rfl rfl) rfl ?_
                                refine w_pure want_none (y_assign (v := .int _ _) rfl rfl) rfl ?_
                                refine w_pure want_none (y_assign (v := .bool _) rfl rfl) rfl ?_
                                refine w_nil ?_
                                refine q_blk_normal ?_
                                refine q_then (hK83 _ _ ?_)
                                refine w_region ?_
                                refine w_pure want_none (y_move (v := .int _ _) rfl rfl) rfl ?_
                                refine w_pure want_none (y_add rfl rfl rfl rfl (by omega) (by omega)) rfl ?_
                                refine w_pure want_none (y_assign (v := .int _ _) rfl rfl) rfl ?_
                                refine w_nil ?_
                                refine q_then (hN75 _ _ (Nx.intro ((p.chi - p.clo + 1 - (q + 1 : Nat)).toNat) (by omega) (by repeat (first | exact agree_mix | refine agree_upd rfl ?_ | refine agree_updL rfl ?_ _ | refine agree_mixin rfl ?_)) ?_))
                                exact ⟨q + 1, _, by rw [fullTUpto_succ (never_ p.farms.length) 0 (by omega), Bool.not_and, ← hm, ← iff_dec ho3]; simp [h16, h51, h52, h53, h54, h59, h60, h61, h62, h63, h82, h108, h109, h110], vb3 (by omega) rfl (by omega), by omega, rfl, hs103.drop.tail⟩
                              ·
                                try simp only [Bool.not_eq_true', Bool.not_eq_false', decide_eq_true_eq, decide_eq_false_iff_not, Int.not_lt, Int.not_le] at h110
                                refine w_pure (want_yes rfl rfl rfl) (y_move (v := .int _ _) rfl rfl) rfl ?_
                                refine w_pure (want_yes rfl rfl rfl) (y_neq rfl rfl rfl rfl) rfl ?_
                                refine w_pure want_none (y_pickF (v := .bool _) rfl rfl rfl rfl) rfl ?_
                                refine w_pure want_none (y_assign (v := .int _ _) rfl rfl) rfl ?_
                                refine w_pure want_none (y_assign (v := .bool _) rfl rfl) rfl ?_
                                refine w_nil ?_
                                refine q_blk_normal ?_
                                refine q_then (hK83 _ _ ?_)
                                refine w_region ?_
                                refine w_pure want_none (y_move (v := .int _ _) rfl rfl) rfl ?_
                                refine w_pure want_none (y_add rfl rfl rfl rfl (by omega) (by omega)) rfl ?_
                                refine w_pure want_none (y_assign (v := .int _ _) rfl rfl) rfl ?_
                                refine w_nil ?_
                                refine q_then (hN75 _ _ (Nx.intro ((p.chi - p.clo + 1 - (q + 1 : Nat)).toNat) (by omega) (by repeat (first | exact agree_mix | refine agree_upd rfl ?_ | refine agree_updL rfl ?_ _ | refine agree_mixin rfl ?_)) ?_))
                                exact ⟨q + 1, _, by rw [fullTUpto_succ (never_ p.farms.length) 0 (by omega), Bool.not_and, ← hm, ← iff_dec ho3]; simp [h16, h51, h52, h53, h54, h59, h60, h61, h62, h63, h82, h108, h109, h110], vb3 (by omega) rfl (by omega), by omega, rfl, hs103.drop.tail⟩
                          ·
                            try simp only [Bool.not_eq_true', Bool.not_eq_false', decide_eq_true_eq, decide_eq_false_iff_not, Int.not_lt, Int.not_le] at h108
                            refine w_skipop rfl rfl rfl ?_
                            refine w_skipop rfl rfl rfl ?_
                            refine w_pure want_none (y_pickF (v := _) rfl rfl rfl rfl) rfl ?_
                            refine w_nil ?_
                            refine q_then (hK106 _ _ ?_)
                            refine w_condF rfl rfl ?_
                            refine w_skip ?_
                            refine q_then (hK104 _ _ ?_)
                            refine w_region ?_
                            refine w_pure want_none (y_move (v := .int _ _) rfl rfl) rfl ?_
                            refine w_pure want_none (y_move (v := .int _ _) rfl rfl) rfl ?_
                            refine w_pure want_none (y_max2 rfl rfl rfl rfl) rfl ?_
                            refine w_pure want_none (y_move (v := .bool _) rfl rfl) rfl ?_
                            refine w_pure want_none (y_move (v := .bool _) rfl rfl) rfl ?_
                            refine w_split (fun h111 => ?_) (fun h111 => ?_)
                            ·
                              try simp only [Bool.not_eq_true', Bool.not_eq_false', decide_eq_true_eq, decide_eq_false_iff_not, Int.not_lt, Int.not_le] at h111
                              refine w_skipop rfl rfl rfl ?_
                              refine w_skipop rfl rfl rfl ?_
                              refine w_pure want_none (y_pickT (v := _) rfl rfl rfl rfl) rfl ?_
                              refine w_pure want_none (y_assign (v := .int _ _) rfl rfl) rfl ?_
                              refine w_pure want_none (y_assign (v := .bool _) rfl rfl) rfl ?_
                              refine w_nil ?_
                              refine q_blk_normal ?_
                              refine q_then (hK83 _ _ ?_)
                              refine w_region ?_
                              refine w_pure want_none (y_move (v := .int _ _) rfl rfl) rfl ?_
                              refine w_pure want_none (y_add rfl rfl rfl rfl (by omega) (by omega)) rfl ?_
                              refine w_pure want_none (y_assign (v := .int _ _) rfl rfl) rfl ?_
                              refine w_nil ?_
                              refine q_then (hN75 _ _ (Nx.intro ((p.chi - p.clo + 1 - (q + 1 : Nat)).toNat) (by omega) (by repeat (first | exact agree_mix | refine agree_upd rfl ?_ | refine agree_updL rfl ?_ _ | refine agree_mixin rfl ?_)) ?_))
                              exact ⟨q + 1, _, by rw [fullTUpto_succ (never_ p.farms.length) 0 (by omega), Bool.not_and, ← hm, ← iff_dec ho3]; simp [h16, h51, h52, h53, h54, h59, h60, h61, h62, h63, h82, h108, h111], vb3 (by omega) rfl (by omega), by omega, rfl, hs103.drop.tail⟩
                            ·
                              try simp only [Bool.not_eq_true', Bool.not_eq_false', decide_eq_true_eq, decide_eq_false_iff_not, Int.not_lt, Int.not_le] at h111
                              refine w_pure (want_yes rfl rfl rfl) (y_move (v := .int _ _) rfl rfl) rfl ?_
                              refine w_pure (want_yes rfl rfl rfl) (y_neq rfl rfl rfl rfl) rfl ?_
                              refine w_pure want_none (y_pickF (v := .bool _) rfl rfl rfl rfl) rfl ?_
                              refine w_pure want_none (y_assign (v := .int _ _) rfl rfl) rfl ?_
                              refine w_pure want_none (y_assign (v := .bool _) rfl rfl) rfl ?_
                              refine w_nil ?_
                              refine q_blk_normal ?_
                              refine q_then (hK83 _ _ ?_)
                              refine w_region ?_
                              refine w_pure want_none (y_move (v := .int _ _) rfl rfl) rfl ?_
                              refine w_pure want_none (y_add rfl rfl rfl rfl (by omega) (by omega)) rfl ?_
                              refine w_pure want_none (y_assign (v := .int _ _) rfl rfl) rfl ?_
                              refine w_nil ?_
                              refine q_then (hN75 _ _ (Nx.intro ((p.chi - p.clo + 1 - (q + 1 : Nat)).toNat) (by omega) (by repeat (first | exact agree_mix | refine agree_upd rfl ?_ | refine agree_updL rfl ?_ _ | refine agree_mixin rfl ?_)) ?_))
                              exact ⟨q + 1, _, by rw [fullTUpto_succ (never_ p.farms.length) 0 (by omega), Bool.not_and, ← hm, ← iff_dec ho3]; simp [h16, h51, h52, h53, h54, h59, h60, h61, h62, h63, h82, h108, h111], vb3 (by omega) rfl (by omega), by omega, rfl, hs103.drop.tail⟩
                        ·
                          try simp only [Bool.not_eq_true', Bool.not_eq_false', decide_eq_true_eq, decide_eq_false_iff_not, Int.not_lt, Int.not_le] at h82
                          refine w_exit ?_
                          refine q_then_exit ?_
                          refine q_then_exit ?_
                          refine q_blk_this ?_
                          refine q_then (hK71 _ _ ?_)
                          refine w_seq (fun K113 hK112 => ?_)
                          refine w_seq (fun K115 hK114 => ?_)
                          rw [fullTUpto_all (never_ p.farms.length) 0 (by omega)] at hm
                          refine w_region ?_
                          refine w_pure want_none (y_move (v := .bool _) rfl rfl) rfl ?_
                          refine w_nil ?_
                          refine q_then (hK114 _ _ ?_)
                          refine w_cond rfl rfl (fun h116 => ?_) (fun h116 => ?_)
                          ·
                            try simp only [Bool.not_eq_true', Bool.not_eq_false', decide_eq_true_eq, decide_eq_false_iff_not, Int.not_lt, Int.not_le] at h116
                            refine w_seq (fun K118 hK117 => ?_)
                            have htz2 := htz.2 (by simpa [h16, h51, h52, h53, h54, h59, h60, h61, h62, h63, h82, h116] using hm.symm)
                            refine w_region ?_
                            refine w_pure want_none (y_move (v := .int _ _) rfl rfl) rfl ?_
                            refine w_pure want_none (y_eql rfl rfl rfl rfl) rfl ?_
                            refine w_pure want_none (y_move (v := .bool _) rfl rfl) rfl ?_
                            refine w_split (fun h119 => ?_) (fun h119 => ?_)
                            ·
                              try simp only [Bool.not_eq_true', Bool.not_eq_false', decide_eq_true_eq, decide_eq_false_iff_not, Int.not_lt, Int.not_le] at h119
                              refine w_call (want_yes rfl rfl rfl) Try.call23 rfl rfl rfl rfl (c23 hs) ?_
                              rintro _ w121 ⟨rfl, hs122⟩
                              refine w_pure want_none (y_pickT (v := .bool _) rfl rfl rfl rfl) rfl ?_
                              refine w_pure want_none (y_assign (v := .bool _) rfl rfl) rfl ?_
                              refine w_nil ?_
                              refine q_then (hK117 _ _ ?_)
                              refine w_ret ?_
                              refine q_then_ret ?_
                              refine q_ret (l := [.tmp 4]) (vs := [_]) rfl ⟨⟨rfl, show _ = (.bool _ : Value) from rfl⟩, trivial⟩ ?_
                              exact ⟨rfl, hs122.drop.tail.tail⟩
                            ·
                              exfalso
                              try simp only [Bool.not_eq_true', Bool.not_eq_false', decide_eq_true_eq, decide_eq_false_iff_not, Int.not_lt, Int.not_le] at h119
                              omega
                          ·
                            try simp only [Bool.not_eq_true', Bool.not_eq_false', decide_eq_true_eq, decide_eq_false_iff_not, Int.not_lt, Int.not_le] at h116
                            refine w_skip ?_
                            refine q_then (hK112 _ _ ?_)
                            refine w_seq (fun K124 hK123 => ?_)
                            have htz1 := htz.1 (by simpa [h16, h51, h52, h53, h54, h59, h60, h61, h62, h63, h82, h116] using hm.symm)
                            refine w_region ?_
                            refine w_pure want_none (y_move (v := .int _ _) rfl rfl) rfl ?_
                            refine w_pure want_none (y_eql rfl rfl rfl rfl) rfl ?_
                            refine w_pure want_none (y_move (v := .bool _) rfl rfl) rfl ?_
                            refine w_split (fun h125 => ?_) (fun h125 => ?_)
                            ·
                              try simp only [Bool.not_eq_true', Bool.not_eq_false', decide_eq_true_eq, decide_eq_false_iff_not, Int.not_lt, Int.not_le] at h125
                              refine w_pure (want_yes rfl rfl rfl) (y_move (v := .int _ _) rfl rfl) rfl ?_
                              refine w_pure (want_yes rfl rfl rfl) (y_move (v := .int _ _) rfl rfl) rfl ?_
                              refine w_pure (want_yes rfl rfl rfl) (y_eql rfl rfl rfl rfl) rfl ?_
                              refine w_pure want_none (y_pickT (v := .bool _) rfl rfl rfl rfl) rfl ?_
                              refine w_pure want_none (y_move (v := .bool _) rfl rfl) rfl ?_
                              refine w_split (fun h126 => ?_) (fun h126 => ?_)
                              ·
                                try simp only [Bool.not_eq_true', Bool.not_eq_false', decide_eq_true_eq, decide_eq_false_iff_not, Int.not_lt, Int.not_le] at h126
                                refine w_call (want_yes rfl rfl rfl) Try.call23 rfl rfl rfl rfl (c23 hs) ?_
                                rintro _ w128 ⟨rfl, hs129⟩
                                refine w_pure want_none (y_pickT (v := .bool _) rfl rfl rfl rfl) rfl ?_
                                refine w_pure want_none (y_assign (v := .bool _) rfl rfl) rfl ?_
                                refine w_nil ?_
                                refine q_then (hK123 _ _ ?_)
                                refine w_ret ?_
                                refine q_ret (l := [.tmp 4]) (vs := [_]) rfl ⟨⟨rfl, show _ = (.bool _ : Value) from rfl⟩, trivial⟩ ?_
                                exact ⟨rfl, hs129.drop.tail.tail⟩
                              ·
                                exfalso
                                try simp only [Bool.not_eq_true', Bool.not_eq_false', decide_eq_true_eq, decide_eq_false_iff_not, Int.not_lt, Int.not_le] at h126
                                omega
                            ·
                              exfalso
                              try simp only [Bool.not_eq_true', Bool.not_eq_false', decide_eq_true_eq, decide_eq_false_iff_not, Int.not_lt, Int.not_le] at h125
                              omega
                ·
                  try simp only [Bool.not_eq_true', Bool.not_eq_false', decide_eq_true_eq, decide_eq_false_iff_not, Int.not_lt, Int.not_le] at h61
                  refine w_skipop rfl rfl rfl ?_
                  refine w_skipop rfl rfl rfl ?_
                  refine w_skipop rfl rfl rfl ?_
                  refine w_skipop' rfl rfl rfl ?_
                  refine w_skipop' rfl rfl rfl ?_
                  refine w_skipop' rfl rfl rfl ?_
                  refine w_skipop rfl rfl rfl ?_
                  refine w_pure (want_yes rfl rfl rfl) (y_pickF (v := _) rfl rfl rfl rfl) rfl ?_
                  refine w_pure want_none (y_pickF (v := .bool _) rfl rfl rfl rfl) rfl ?_
                  refine w_nil ?_
                  refine q_then (hK57 _ _ ?_)
                  refine w_condF rfl rfl ?_
                  refine w_skip ?_
                  refine q_then (hK55 _ _ ?_)
                  refine w_seq (fun K131 hK130 => ?_)
                  refine w_region ?_
                  refine w_pure want_none (y_loadN (vs := [_, _, _, _]) Try.isAgg26 Try.sizeOf26 hs46.drop.tail rfl rfl hbx2) rfl ?_
                  refine w_call want_none Try.call33 rfl rfl rfl rfl (c33 p _ _ (by omega) (by omega) ha.cons.cons.app hnm 0 hs46) ?_
                  rintro _ w133 ⟨rfl, hs134⟩
                  refine w_pure want_none (y_move (v := .tuple _) rfl rfl) rfl ?_
                  refine w_pure want_none (y_extract (v := .int _ _) rfl rfl rfl) rfl ?_
                  refine w_pure want_none (y_extract (v := .int _ _) rfl rfl rfl) rfl ?_
                  refine w_pure want_none (y_assign (v := .int _ _) rfl rfl) rfl ?_
                  refine w_pure want_none (y_assign (v := .int _ _) rfl rfl) rfl ?_
                  refine w_nil ?_
                  refine q_then (hK130 _ _ ?_)
                  refine w_seq (fun K136 hK135 => ?_)
                  have htz := told_zero hck
                  refine w_region ?_
                  refine w_pure want_none (y_assign (v := _) rfl rfl) rfl ?_
                  refine w_pure want_none (y_assign (v := _) rfl rfl) rfl ?_
                  refine w_nil ?_
                  refine q_then (hK135 _ _ ?_)
                  refine w_seq (fun K138 hK137 => ?_)
                  refine w_seq (fun K140 hK139 => ?_)
                  refine w_region ?_
                  refine w_pure want_none (y_fieldAddr (o := 1) (i := 1) Try.underlying26 rfl Try.sizeOf23 rfl rfl rfl) rfl ?_
                  refine w_pure want_none (y_fieldAddr (o := 0) (i := 0) Try.underlying23 rfl Try.sizeOf3 rfl rfl rfl) rfl ?_
                  refine w_pure want_none (y_load1 Try.isAgg3 hs134.drop.tail rfl rfl (show Ats _ _ _ _ [_] from Ats.part hbx2 1 1)) rfl ?_
                  refine w_pure want_none (y_assign (v := .int _ _) rfl rfl) rfl ?_
                  refine w_nil ?_
                  refine q_then (hK139 _ _ ?_)
                  refine w_block ?_
                  refine w_loop [4, 18, 19, 20, 21, 22, 23, 24, 110, 111, 112, 113, 114, 115, 116, 117, 118, 119, 120, 121, 122, 123, 124, 125, 126, 127, 128, 129, 130, 131, 132, 133, 134, 135, 136, 137, 138, 139, 140, 141] [18, 19, 20] (fun kk vs w => ∃ (q : Nat) (m : Bool), m = !(fullTUpto p (never_ p.farms.length) 0 q) ∧ vs = [.int .i64 0, .bool m, .int .i64 (p.clo + q)] ∧ (q : Int) ≤ p.chi - p.clo + 1 ∧ kk = (p.chi - p.clo + 1 - q).toNat ∧ St w0 w (B1 ++ ((b6, blk 65 [.int .u8 x0, .int .u8 x1]) :: (b3, blk 26 (p.cells a c)) :: F))) ((p.chi - p.clo + 1).toNat) ?_ ?_
                  ·
                    exact ⟨0, false, by simp [fullTUpto], vb3 rfl rfl (by omega), by omega, by simp, hs134⟩
                  ·
                    intro k vs μ w143 hI K142 hN141
                    obtain ⟨q, m, hm, rfl, hq, rfl, hs⟩ := hI
                    refine w_seq (fun K145 hK144 => ?_)
                    refine w_seq (fun K147 hK146 => ?_)
                    refine w_region ?_
                    refine w_pure want_none (y_move (v := .int _ _) rfl rfl) rfl ?_
                    refine w_pure want_none (y_fieldAddr (o := 1) (i := 1) Try.underlying26 rfl Try.sizeOf23 rfl rfl rfl) rfl ?_
                    refine w_pure want_none (y_fieldAddr (o := 1) (i := 1) Try.underlying23 rfl Try.sizeOf3 rfl rfl rfl) rfl ?_
                    refine w_pure want_none (y_load1 Try.isAgg3 hs.drop.tail rfl rfl (show Ats _ _ _ _ [_] from Ats.part hbx2 2 1)) rfl ?_
                    refine w_pure want_none (y_leq rfl rfl rfl rfl) rfl ?_
                    refine w_nil ?_
                    refine q_then (hK146 _ _ ?_)
                    refine w_cond rfl rfl (fun h148 => ?_) (fun h148 => ?_)
                    ·
                      try simp only [Bool.not_eq_true', Bool.not_eq_false', decide_eq_true_eq, decide_eq_false_iff_not, Int.not_lt, Int.not_le] at h148
                      refine w_skip ?_
                      refine q_then (hK144 _ _ ?_)
                      refine w_seq (fun K150 hK149 => ?_)
                      refine w_block ?_
                      refine w_seq (fun K152 hK151 => ?_)
                      refine w_region ?_
                      refine w_pure want_none (y_loadN (vs := [_, _, _, _]) Try.isAgg26 Try.sizeOf26 hs.drop.tail rfl rfl hbx2) rfl ?_
                      refine w_alloc (cs := [_, _, _, _]) want_none Try.zeroValue26 rfl hs (fun b153 w154 hs155 => ?_)
                      refine w_store (i := 0) (v := .agg #[.int _ _, .int _ _, .int _ _, .slice _ _ _]) (vs := [_, _, _, _]) want_none Try.sizeOf26 rfl rfl rfl rfl rfl (by simp [Value.oneCell']) hs155 rfl (Nat.le_of_ble_eq_true rfl) (fun w156 hs157 => ?_)
                      refine w_nil ?_
                      refine q_then (hK151 _ _ ?_)
                      refine w_seq (fun K159 hK158 => ?_)
                      have hone : (oneP p (p.clo + q)).farms.length = p.farms.length := rfl
                      have hday1 : p.clo ≤ p.clo + q := by omega
                      have hday2 : p.clo + q ≤ p.chi := by omega
                      obtain ⟨ho1, ho2, ho3⟩ := one_plan hck hday1 hday2
                      refine w_region ?_
                      refine w_pure want_none (y_move (v := .int _ _) rfl rfl) rfl ?_
                      refine w_pure want_none (y_move (v := .int _ _) rfl rfl) rfl ?_
                      refine w_call want_none Try.call36 rfl rfl rfl rfl (c36 _ _ hs157) ?_
                      rintro _ w161 ⟨rfl, hs162⟩
                      refine w_pure want_none (y_fieldAddr (o := 1) (i := 1) Try.underlying26 rfl Try.sizeOf23 rfl rfl rfl) rfl ?_
                      refine w_store (i := 0) (v := .agg #[.int _ _, .int _ _]) (vs := [_, _]) want_none Try.sizeOf23 rfl rfl rfl rfl rfl (by simp [Value.oneCell']) hs162 rfl (Nat.le_of_ble_eq_true rfl) (fun w163 hs164 => ?_)
                      refine w_nil ?_
                      refine q_then (hK158 _ _ ?_)
                      refine w_seq (fun K166 hK165 => ?_)
                      refine w_region ?_
                      refine w_pure want_none (y_loadN (vs := [_, _, _, _]) Try.isAgg26 Try.sizeOf26 hs164 rfl rfl (ats_own (i := 0) (vs := [_, _, _, _]) rfl rfl)) rfl ?_
                      refine w_call want_none Try.call26 rfl rfl rfl rfl (c26 (oneP p (p.clo + q)) _ _ (by omega) (by omega) ha.cons.cons.app.cons hnm hs164) ?_
                      rintro _ w168 ⟨B3, aq_B3, cq_B3, rfl, h_B3, hs169⟩
                      replace hs169 := (show St _ _ (B3 ++ (_ :: B1 ++ (_ :: _ :: F))) from hs169)
                      refine w_pure want_none (y_move (v := .tuple _) rfl rfl) rfl ?_
                      refine w_pure want_none (y_extract (v := .slice _ _ _) rfl rfl rfl) rfl ?_
                      refine w_pure want_none (y_extract (v := .int _ _) rfl rfl rfl) rfl ?_
                      refine w_pure want_none (y_extract (v := .int _ _) rfl rfl rfl) rfl ?_
                      refine w_pure want_none (y_assign (v := .slice _ _ _) rfl rfl) rfl ?_
                      refine w_pure want_none (y_assign (v := .int _ _) rfl rfl) rfl ?_
                      refine w_pure want_none (y_assign (v := .int _ _) rfl rfl) rfl ?_
                      refine w_nil ?_
                      refine q_then (hK165 _ _ ?_)
                      refine w_seq (fun K171 hK170 => ?_)
                      refine w_seq (fun K173 hK172 => ?_)
                      refine w_region ?_
                      refine w_pure want_none (y_move (v := .int _ _) rfl rfl) rfl ?_
                      refine w_pure want_none (y_neq rfl rfl rfl rfl) rfl ?_
                      refine w_pure want_none (y_move (v := .bool _) rfl rfl) rfl ?_
                      refine w_split (fun h174 => ?_) (fun h174 => ?_)
                      ·
                        try simp only [Bool.not_eq_true', Bool.not_eq_false', decide_eq_true_eq, decide_eq_false_iff_not, Int.not_lt, Int.not_le] at h174
                        refine w_pure (want_yes rfl rfl rfl) (y_move (v := .int _ _) rfl rfl) rfl ?_
                        refine w_pure (want_yes rfl rfl rfl) (y_neq rfl rfl rfl rfl) rfl ?_
                        refine w_pure want_none (y_pickT (v := .bool _) rfl rfl rfl rfl) rfl ?_
                        refine w_nil ?_
                        refine q_then (hK172 _ _ ?_)
                        refine w_cond rfl rfl (fun h175 => ?_) (fun h175 => ?_)
                        ·
                          exfalso
                          try simp only [Bool.not_eq_true', Bool.not_eq_false', decide_eq_true_eq, decide_eq_false_iff_not, Int.not_lt, Int.not_le] at h175
                          omega
                        ·
                          try simp only [Bool.not_eq_true', Bool.not_eq_false', decide_eq_true_eq, decide_eq_false_iff_not, Int.not_lt, Int.not_le] at h175
                          refine w_skip ?_
                          refine q_then (hK170 _ _ ?_)
                          refine w_region ?_
                          refine w_pure want_none (y_move (v := .int _ _) rfl rfl) rfl ?_
                          refine w_pure want_none (y_move (v := .int _ _) rfl rfl) rfl ?_
                          refine w_pure want_none (y_max2 rfl rfl rfl rfl) rfl ?_
                          refine w_pure want_none (y_move (v := .bool _) rfl rfl) rfl ?_
                          refine w_pure want_none (y_move (v := .bool _) rfl rfl) rfl ?_
                          refine w_split (fun h176 => ?_) (fun h176 => ?_)
                          ·
                            try simp only [Bool.not_eq_true', Bool.not_eq_false', decide_eq_true_eq, decide_eq_false_iff_not, Int.not_lt, Int.not_le] at h176
                            refine w_skipop rfl rfl rfl ?_
                            refine w_skipop rfl rfl rfl ?_
                            refine w_pure want_none (y_pickT (v := _) rfl rfl rfl rfl) rfl ?_
                            refine w_pure want_none (y_assign (v := .int _ _) rfl rfl) rfl ?_
                            refine w_pure want_none (y_assign (v := .bool _) rfl rfl) rfl ?_
                            refine w_nil ?_
                            refine q_blk_normal ?_
                            refine q_then (hK149 _ _ ?_)
                            refine w_region ?_
                            refine w_pure want_none (y_move (v := .int _ _) rfl rfl) rfl ?_
                            refine w_pure want_none (y_add rfl rfl rfl rfl (by omega) (by omega)) rfl ?_
                            refine w_pure want_none (y_assign (v := .int _ _) rfl rfl) rfl ?_
                            refine w_nil ?_
                            refine q_then (hN141 _ _ (Nx.intro ((p.chi - p.clo + 1 - (q + 1 : Nat)).toNat) (by omega) (by repeat (first | exact agree_mix | refine agree_upd rfl ?_ | refine agree_updL rfl ?_ _ | refine agree_mixin rfl ?_)) ?_))
                            exact ⟨q + 1, _, by rw [fullTUpto_succ (never_ p.farms.length) 0 (by omega), Bool.not_and, ← hm, ← iff_dec ho3]; simp [h16, h51, h52, h53, h54, h59, h60, h61, h148, h174, h175, h176], vb3 (by omega) rfl (by omega), by omega, rfl, hs169.drop.tail⟩
                          ·
                            try simp only [Bool.not_eq_true', Bool.not_eq_false', decide_eq_true_eq, decide_eq_false_iff_not, Int.not_lt, Int.not_le] at h176
                            refine w_pure (want_yes rfl rfl rfl) (y_move (v := .int _ _) rfl rfl) rfl ?_
                            refine w_pure (want_yes rfl rfl rfl) (y_neq rfl rfl rfl rfl) rfl ?_
                            refine w_pure want_none (y_pickF (v := .bool _) rfl rfl rfl rfl) rfl ?_
                            refine w_pure want_none (y_assign (v := .int _ _) rfl rfl) rfl ?_
                            refine w_pure want_none (y_assign (v := .bool _) rfl rfl) rfl ?_
                            refine w_nil ?_
                            refine q_blk_normal ?_
                            refine q_then (hK149 _ _ ?_)
                            refine w_region ?_
                            refine w_pure want_none (y_move (v := .int _ _) rfl rfl) rfl ?_
                            refine w_pure want_none (y_add rfl rfl rfl rfl (by omega) (by omega)) rfl ?_
                            refine w_pure want_none (y_assign (v := .int _ _) rfl rfl) rfl ?_
                            refine w_nil ?_
                            refine q_then (hN141 _ _ (Nx.intro ((p.chi - p.clo + 1 - (q + 1 : Nat)).toNat) (by omega) (by repeat (first | exact agree_mix | refine agree_upd rfl ?_ | refine agree_updL rfl ?_ _ | refine agree_mixin rfl ?_)) ?_))
                            exact ⟨q + 1, _, by rw [fullTUpto_succ (never_ p.farms.length) 0 (by omega), Bool.not_and, ← hm, ← iff_dec ho3]; simp [h16, h51, h52, h53, h54, h59, h60, h61, h148, h174, h175, h176], vb3 (by omega) rfl (by omega), by omega, rfl, hs169.drop.tail⟩
                      ·
                        try simp only [Bool.not_eq_true', Bool.not_eq_false', decide_eq_true_eq, decide_eq_false_iff_not, Int.not_lt, Int.not_le] at h174
                        refine w_skipop rfl rfl rfl ?_
                        refine w_skipop rfl rfl rfl ?_
                        refine w_pure want_none (y_pickF (v := _) rfl rfl rfl rfl) rfl ?_
                        refine w_nil ?_
                        refine q_then (hK172 _ _ ?_)
                        refine w_condF rfl rfl ?_
                        refine w_skip ?_
                        refine q_then (hK170 _ _ ?_)
                        refine w_region ?_
                        refine w_pure want_none (y_move (v := .int _ _) rfl rfl) rfl ?_
                        refine w_pure want_none (y_move (v := .int _ _) rfl rfl) rfl ?_
                        refine w_pure want_none (y_max2 rfl rfl rfl rfl) rfl ?_
                        refine w_pure want_none (y_move (v := .bool _) rfl rfl) rfl ?_
                        refine w_pure want_none (y_move (v := .bool _) rfl rfl) rfl ?_
                        refine w_split (fun h177 => ?_) (fun h177 => ?_)
                        ·
                          try simp only [Bool.not_eq_true', Bool.not_eq_false', decide_eq_true_eq, decide_eq_false_iff_not, Int.not_lt, Int.not_le] at h177
                          refine w_skipop rfl rfl rfl ?_
                          refine w_skipop rfl rfl rfl ?_
                          refine w_pure want_none (y_pickT (v := _) rfl rfl rfl rfl) rfl ?_
                          refine w_pure want_none (y_assign (v := .int _ _) rfl rfl) rfl ?_
                          refine w_pure want_none (y_assign (v := .bool _) rfl rfl) rfl ?_
                          refine w_nil ?_
                          refine q_blk_normal ?_
                          refine q_then (hK149 _ _ ?_)
                          refine w_region ?_
                          refine w_pure want_none (y_move (v := .int _ _) rfl rfl) rfl ?_
                          refine w_pure want_none (y_add rfl rfl rfl rfl (by omega) (by omega)) rfl ?_
                          refine w_pure want_none (y_assign (v := .int _ _) rfl rfl) rfl ?_
                          refine w_nil ?_
                          refine q_then (hN141 _ _ (Nx.intro ((p.chi - p.clo + 1 - (q + 1 : Nat)).toNat) (by omega) (by repeat (first | exact agree_mix | refine agree_upd rfl ?_ | refine agree_updL rfl ?_ _ | refine agree_mixin rfl ?_)) ?_))
                          exact ⟨q + 1, _, by rw [fullTUpto_succ (never_ p.farms.length) 0 (by omega), Bool.not_and, ← hm, ← iff_dec ho3]; simp [h16, h51, h52, h53, h54, h59, h60, h61, h148, h174, h177], vb3 (by omega) rfl (by omega), by omega, rfl, hs169.drop.tail⟩
                        ·
                          try simp only [Bool.not_eq_true', Bool.not_eq_false', decide_eq_true_eq, decide_eq_false_iff_not, Int.not_lt, Int.not_le] at h177
                          refine w_pure (want_yes rfl rfl rfl) (y_move (v := .int _ _) rfl rfl) rfl ?_
                          refine w_pure (want_yes rfl rfl rfl) (y_neq rfl rfl rfl rfl) rfl ?_
                          refine w_pure want_none (y_pickF (v := .bool _) rfl rfl rfl rfl) rfl ?_
                          refine w_pure want_none (y_assign (v := .int _ _) rfl rfl) rfl ?_
                          refine w_pure want_none (y_assign (v := .bool _) rfl rfl) rfl ?_
                          refine w_nil ?_
                          refine q_blk_normal ?_
                          refine q_then (hK149 _ _ ?_)
                          refine w_region ?_
                          refine w_pure want_none (y_move (v := .int _ _) rfl rfl) rfl ?_
                          refine w_pure want_none (y_add rfl rfl rfl rfl (by omega) (by omega)) rfl ?_
                          refine w_pure want_none (y_assign (v := .int _ _) rfl rfl) rfl ?_
                          refine w_nil ?_
                          refine q_then (hN141 _ _ (Nx.intro ((p.chi - p.clo + 1 - (q + 1 : Nat)).toNat) (by omega) (by repeat (first | exact agree_mix | refine agree_upd rfl ?_ | refine agree_updL rfl ?_ _ | refine agree_mixin rfl ?_)) ?_))
                          exact ⟨q + 1, _, by rw [fullTUpto_succ (never_ p.farms.length) 0 (by omega), Bool.not_and, ← hm, ← iff_dec ho3]; simp [h16, h51, h52, h53, h54, h59, h60, h61, h148, h174, h177], vb3 (by omega) rfl (by omega), by omega, rfl, hs169.drop.tail⟩
                    ·
                      try simp only [Bool.not_eq_true', Bool.not_eq_false', decide_eq_true_eq, decide_eq_false_iff_not, Int.not_lt, Int.not_le] at h148
                      refine w_exit ?_
                      refine q_then_exit ?_
                      refine q_then_exit ?_
                      refine q_blk_this ?_
                      refine q_then (hK137 _ _ ?_)
                      refine w_seq (fun K179 hK178 => ?_)
                      refine w_seq (fun K181 hK180 => ?_)
                      rw [fullTUpto_all (never_ p.farms.length) 0 (by omega)] at hm
                      refine w_region ?_
                      refine w_pure want_none (y_move (v := .bool _) rfl rfl) rfl ?_
                      refine w_nil ?_
                      refine q_then (hK180 _ _ ?_)
                      refine w_cond rfl rfl (fun h182 => ?_) (fun h182 => ?_)
                      ·
                        try simp only [Bool.not_eq_true', Bool.not_eq_false', decide_eq_true_eq, decide_eq_false_iff_not, Int.not_lt, Int.not_le] at h182
                        refine w_seq (fun K184 hK183 => ?_)
                        have htz2 := htz.2 (by simpa [h16, h51, h52, h53, h54, h59, h60, h61, h148, h182] using hm.symm)
                        refine w_region ?_
                        refine w_pure want_none (y_move (v := .int _ _) rfl rfl) rfl ?_
                        refine w_pure want_none (y_eql rfl rfl rfl rfl) rfl ?_
                        refine w_pure want_none (y_move (v := .bool _) rfl rfl) rfl ?_
                        refine w_split (fun h185 => ?_) (fun h185 => ?_)
                        ·
                          try simp only [Bool.not_eq_true', Bool.not_eq_false', decide_eq_true_eq, decide_eq_false_iff_not, Int.not_lt, Int.not_le] at h185
                          refine w_call (want_yes rfl rfl rfl) Try.call23 rfl rfl rfl rfl (c23 hs) ?_
                          rintro _ w187 ⟨rfl, hs188⟩
                          refine w_pure want_none (y_pickT (v := .bool _) rfl rfl rfl rfl) rfl ?_
                          refine w_pure want_none (y_assign (v := .bool _) rfl rfl) rfl ?_
                          refine w_nil ?_
                          refine q_then (hK183 _ _ ?_)
                          refine w_ret ?_
                          refine q_then_ret ?_
                          refine q_ret (l := [.tmp 4]) (vs := [_]) rfl ⟨⟨rfl, show _ = (.bool _ : Value) from rfl⟩, trivial⟩ ?_
                          exact ⟨rfl, hs188.drop.tail.tail⟩
                        ·
                          exfalso
                          try simp only [Bool.not_eq_true', Bool.not_eq_false', decide_eq_true_eq, decide_eq_false_iff_not, Int.not_lt, Int.not_le] at h185
                          omega
                      ·
                        try simp only [Bool.not_eq_true', Bool.not_eq_false', decide_eq_true_eq, decide_eq_false_iff_not, Int.not_lt, Int.not_le] at h182
                        refine w_skip ?_
                        refine q_then (hK178 _ _ ?_)
                        refine w_seq (fun K190 hK189 => ?_)
                        have htz1 := htz.1 (by simpa [h16, h51, h52, h53, h54, h59, h60, h61, h148, h182] using hm.symm)
                        refine w_region ?_
                        refine w_pure want_none (y_move (v := .int _ _) rfl rfl) rfl ?_
                        refine w_pure want_none (y_eql rfl rfl rfl rfl) rfl ?_
                        refine w_pure want_none (y_move (v := .bool _) rfl rfl) rfl ?_
                        refine w_split (fun h191 => ?_) (fun h191 => ?_)
                        ·
                          try simp only [Bool.not_eq_true', Bool.not_eq_false', decide_eq_true_eq, decide_eq_false_iff_not, Int.not_lt, Int.not_le] at h191
                          refine w_pure (want_yes rfl rfl rfl) (y_move (v := .int _ _) rfl rfl) rfl ?_
                          refine w_pure (want_yes rfl rfl rfl) (y_move (v := .int _ _) rfl rfl) rfl ?_
                          refine w_pure (want_yes rfl rfl rfl) (y_eql rfl rfl rfl rfl) rfl ?_
                          refine w_pure want_none (y_pickT (v := .bool _) rfl rfl rfl rfl) rfl ?_
                          refine w_pure want_none (y_move (v := .bool _) rfl rfl) rfl ?_
                          refine w_split (fun h192 => ?_) (fun h192 => ?_)
                          ·
                            try simp only [Bool.not_eq_true', Bool.not_eq_false', decide_eq_true_eq, decide_eq_false_iff_not, Int.not_lt, Int.not_le] at h192
                            refine w_call (want_yes rfl rfl rfl) Try.call23 rfl rfl rfl rfl (c23 hs) ?_
                            rintro _ w194 ⟨rfl, hs195⟩
                            refine w_pure want_none (y_pickT (v := .bool _) rfl rfl rfl rfl) rfl ?_
                            refine w_pure want_none (y_assign (v := .bool _) rfl rfl) rfl ?_
                            refine w_nil ?_
                            refine q_then (hK189 _ _ ?_)
                            refine w_ret ?_
                            refine q_ret (l := [.tmp 4]) (vs := [_]) rfl ⟨⟨rfl, show _ = (.bool _ : Value) from rfl⟩, trivial⟩ ?_
                            exact ⟨rfl, hs195.drop.tail.tail⟩
                          ·
                            exfalso
                            try simp only [Bool.not_eq_true', Bool.not_eq_false', decide_eq_true_eq, decide_eq_false_iff_not, Int.not_lt, Int.not_le] at h192
                            omega
                        ·
                          exfalso
                          try simp only [Bool.not_eq_true', Bool.not_eq_false', decide_eq_true_eq, decide_eq_false_iff_not, Int.not_lt, Int.not_le] at h191
                          omega
            ·
              try simp only [Bool.not_eq_true', Bool.not_eq_false', decide_eq_true_eq, decide_eq_false_iff_not, Int.not_lt, Int.not_le] at h59
              refine w_skipop rfl rfl rfl ?_
              refine w_skipop rfl rfl rfl ?_
              refine w_skipop rfl rfl rfl ?_
              refine w_pure want_none (y_pickF (v := _) rfl rfl rfl rfl) rfl ?_
              refine w_pure want_none (y_move (v := .bool _) rfl rfl) rfl ?_
              refine w_pure (want_yes rfl rfl rfl) (y_move (v := .int _ _) rfl rfl) rfl ?_
              refine w_pure (want_yes rfl rfl rfl) (y_eql rfl rfl rfl rfl) rfl ?_
              refine w_pure (want_yes rfl rfl rfl) (y_move (v := .bool _) rfl rfl) rfl ?_
              refine w_split (fun h196 => ?_) (fun h196 => ?_)
              ·
                try simp only [Bool.not_eq_true', Bool.not_eq_false', decide_eq_true_eq, decide_eq_false_iff_not, Int.not_lt, Int.not_le] at h196
                refine w_pure (want_yes rfl rfl rfl) (y_move (v := .int _ _) rfl rfl) rfl ?_
                refine w_pure (want_yes rfl rfl rfl) (y_neq rfl rfl rfl rfl) rfl ?_
                refine w_pure (want_yes rfl rfl rfl) (y_move (v := .bool _) rfl rfl) rfl ?_
                refine w_split (fun h197 => ?_) (fun h197 => ?_)
                ·
                  exfalso
                  try simp only [Bool.not_eq_true', Bool.not_eq_false', decide_eq_true_eq, decide_eq_false_iff_not, Int.not_lt, Int.not_le] at h197
                  omega
                ·
                  try simp only [Bool.not_eq_true', Bool.not_eq_false', decide_eq_true_eq, decide_eq_false_iff_not, Int.not_lt, Int.not_le] at h197
                  refine w_pure (want_yes rfl rfl rfl) (y_move (v := .int _ _) rfl rfl) rfl ?_
                  refine w_pure (want_yes rfl rfl rfl) (y_move (v := .int _ _) rfl rfl) rfl ?_
                  refine w_pure (want_yes rfl rfl rfl) (y_gtr rfl rfl rfl rfl) rfl ?_
                  refine w_pure (want_yes rfl rfl rfl) (y_pickF (v := .bool _) rfl rfl rfl rfl) rfl ?_
                  refine w_pure (want_yes rfl rfl rfl) (y_pickT (v := .bool _) rfl rfl rfl rfl) rfl ?_
                  refine w_pure want_none (y_pickF (v := .bool _) rfl rfl rfl rfl) rfl ?_
                  refine w_nil ?_
                  refine q_then (hK57 _ _ ?_)
                  refine w_cond rfl rfl (fun h198 => ?_) (fun h198 => ?_)
                  ·
                    exfalso
                    try simp only [Bool.not_eq_true', Bool.not_eq_false', decide_eq_true_eq, decide_eq_false_iff_not, Int.not_lt, Int.not_le] at h198
                    omega
                  ·
                    try simp only [Bool.not_eq_true', Bool.not_eq_false', decide_eq_true_eq, decide_eq_false_iff_not, Int.not_lt, Int.not_le] at h198
                    refine w_skip ?_
                    refine q_then (hK55 _ _ ?_)
                    refine w_seq (fun K200 hK199 => ?_)
                    refine w_region ?_
                    refine w_pure want_none (y_loadN (vs := [_, _, _, _]) Try.isAgg26 Try.sizeOf26 hs46.drop.tail rfl rfl hbx2) rfl ?_
                    refine w_call want_none Try.call33 rfl rfl rfl rfl (c33 p _ _ (by omega) (by omega) ha.cons.cons.app hnm 0 hs46) ?_
                    rintro _ w202 ⟨rfl, hs203⟩
                    refine w_pure want_none (y_move (v := .tuple _) rfl rfl) rfl ?_
                    refine w_pure want_none (y_extract (v := .int _ _) rfl rfl rfl) rfl ?_
                    refine w_pure want_none (y_extract (v := .int _ _) rfl rfl rfl) rfl ?_
                    refine w_pure want_none (y_assign (v := .int _ _) rfl rfl) rfl ?_
                    refine w_pure want_none (y_assign (v := .int _ _) rfl rfl) rfl ?_
                    refine w_nil ?_
                    refine q_then (hK199 _ _ ?_)
                    refine w_seq (fun K205 hK204 => ?_)
                    have htz := told_zero hck
                    refine w_region ?_
                    refine w_pure want_none (y_assign (v := _) rfl rfl) rfl ?_
                    refine w_pure want_none (y_assign (v := _) rfl rfl) rfl ?_
                    refine w_nil ?_
                    refine q_then (hK204 _ _ ?_)
                    refine w_seq (fun K207 hK206 => ?_)
                    refine w_seq (fun K209 hK208 => ?_)
                    refine w_region ?_
                    refine w_pure want_none (y_fieldAddr (o := 1) (i := 1) Try.underlying26 rfl Try.sizeOf23 rfl rfl rfl) rfl ?_
                    refine w_pure want_none (y_fieldAddr (o := 0) (i := 0) Try.underlying23 rfl Try.sizeOf3 rfl rfl rfl) rfl ?_
                    refine w_pure want_none (y_load1 Try.isAgg3 hs203.drop.tail rfl rfl (show Ats _ _ _ _ [_] from Ats.part hbx2 1 1)) rfl ?_
                    refine w_pure want_none (y_assign (v := .int _ _) rfl rfl) rfl ?_
                    refine w_nil ?_
                    refine q_then (hK208 _ _ ?_)
                    refine w_block ?_
                    refine w_loop [4, 18, 19, 20, 21, 22, 23, 24, 110, 111, 112, 113, 114, 115, 116, 117, 118, 119, 120, 121, 122, 123, 124, 125, 126, 127, 128, 129, 130, 131, 132, 133, 134, 135, 136, 137, 138, 139, 140, 141] [18, 19, 20] (fun kk vs w => ∃ (q : Nat) (m : Bool), m = !(fullTUpto p (never_ p.farms.length) 0 q) ∧ vs = [.int .i64 0, .bool m, .int .i64 (p.clo + q)] ∧ (q : Int) ≤ p.chi - p.clo + 1 ∧ kk = (p.chi - p.clo + 1 - q).toNat ∧ St w0 w (B1 ++ ((b6, blk 65 [.int .u8 x0, .int .u8 x1]) :: (b3, blk 26 (p.cells a c)) :: F))) ((p.chi - p.clo + 1).toNat) ?_ ?_
                    ·
                      exact ⟨0, false, by simp [fullTUpto], vb3 rfl rfl (by omega), by omega, by simp, hs203⟩
                    ·
                      intro k vs μ w212 hI K211 hN210
                      obtain ⟨q, m, hm, rfl, hq, rfl, hs⟩ := hI
                      refine w_seq (fun K214 hK213 => ?_)
                      refine w_seq (fun K216 hK215 => ?_)
                      refine w_region ?_
                      refine w_pure want_none (y_move (v := .int _ _) rfl rfl) rfl ?_
                      refine w_pure want_none (y_fieldAddr (o := 1) (i := 1) Try.underlying26 rfl Try.sizeOf23 rfl rfl rfl) rfl ?_
                      refine w_pure want_none (y_fieldAddr (o := 1) (i := 1) Try.underlying23 rfl Try.sizeOf3 rfl rfl rfl) rfl ?_
                      refine w_pure want_none (y_load1 Try.isAgg3 hs.drop.tail rfl rfl (show Ats _ _ _ _ [_] from Ats.part hbx2 2 1)) rfl ?_
                      refine w_pure want_none (y_leq rfl rfl rfl rfl) rfl ?_
                      refine w_nil ?_
                      refine q_then (hK215 _ _ ?_)
                      refine w_cond rfl rfl (fun h217 => ?_) (fun h217 => ?_)
                      ·
                        try simp only [Bool.not_eq_true', Bool.not_eq_false', decide_eq_true_eq, decide_eq_false_iff_not, Int.not_lt, Int.not_le] at h217
                        refine w_skip ?_
                        refine q_then (hK213 _ _ ?_)
                        refine w_seq (fun K219 hK218 => ?_)
                        refine w_block ?_
                        refine w_seq (fun K221 hK220 => ?_)
                        refine w_region ?_
                        refine w_pure want_none (y_loadN (vs := [_, _, _, _]) Try.isAgg26 Try.sizeOf26 hs.drop.tail rfl rfl hbx2) rfl ?_
                        refine w_alloc (cs := [_, _, _, _]) want_none Try.zeroValue26 rfl hs (fun b222 w223 hs224 => ?_)
                        refine w_store (i := 0) (v := .agg #[.int _ _, .int _ _, .int _ _, .slice _ _ _]) (vs := [_, _, _, _]) want_none Try.sizeOf26 rfl rfl rfl rfl rfl (by simp [Value.oneCell']) hs224 rfl (Nat.le_of_ble_eq_true rfl) (fun w225 hs226 => ?_)
                        refine w_nil ?_
                        refine q_then (hK220 _ _ ?_)
                        refine w_seq (fun K228 hK227 => ?_)
                        have hone : (oneP p (p.clo + q)).farms.length = p.farms.length := rfl
                        have hday1 : p.clo ≤ p.clo + q := by omega
                        have hday2 : p.clo + q ≤ p.chi := by omega
                        obtain ⟨ho1, ho2, ho3⟩ := one_plan hck hday1 hday2
                        refine w_region ?_
                        refine w_pure want_none (y_move (v := .int _ _) rfl rfl) rfl ?_
                        refine w_pure want_none (y_move (v := .int _ _) rfl rfl) rfl ?_
                        refine w_call want_none Try.call36 rfl rfl rfl rfl (c36 _ _ hs226) ?_
                        rintro _ w230 ⟨rfl, hs231⟩
                        refine w_pure want_none (y_fieldAddr (o := 1) (i := 1) Try.underlying26 rfl Try.sizeOf23 rfl rfl rfl) rfl ?_
                        refine w_store (i := 0) (v := .agg #[.int _ _, .int _ _]) (vs := [_, _]) want_none Try.sizeOf23 rfl rfl rfl rfl rfl (by simp [Value.oneCell']) hs231 rfl (Nat.le_of_ble_eq_true rfl) (fun w232 hs233 => ?_)
                        refine w_nil ?_
                        refine q_then (hK227 _ _ ?_)
                        refine w_seq (fun K235 hK234 => ?_)
                        refine w_region ?_
                        refine w_pure want_none (y_loadN (vs := [_, _, _, _]) Try.isAgg26 Try.sizeOf26 hs233 rfl rfl (ats_own (i := 0) (vs := [_, _, _, _]) rfl rfl)) rfl ?_
                        refine w_call want_none Try.call26 rfl rfl rfl rfl (c26 (oneP p (p.clo + q)) _ _ (by omega) (by omega) ha.cons.cons.app.cons hnm hs233) ?_
                        rintro _ w237 ⟨B3, aq_B3, cq_B3, rfl, h_B3, hs238⟩
                        replace hs238 := (show St _ _ (B3 ++ (_ :: B1 ++ (_ :: _ :: F))) from hs238)
                        refine w_pure want_none (y_move (v := .tuple _) rfl rfl) rfl ?_
                        refine w_pure want_none (y_extract (v := .slice _ _ _) rfl rfl rfl) rfl ?_
                        refine w_pure want_none (y_extract (v := .int _ _) rfl rfl rfl) rfl ?_
                        refine w_pure want_none (y_extract (v := .int _ _) rfl rfl rfl) rfl ?_
                        refine w_pure want_none (y_assign (v := .slice _ _ _) rfl rfl) rfl ?_
                        refine w_pure want_none (y_assign (v := .int _ _) rfl rfl) rfl ?_
                        refine w_pure want_none (y_assign (v := .int _ _) rfl rfl) rfl ?_
                        refine w_nil ?_
                        refine q_then (hK234 _ _ ?_)
                        refine w_seq (fun K240 hK239 => ?_)
                        refine w_seq (fun K242 hK241 => ?_)
                        refine w_region ?_
                        refine w_pure want_none (y_move (v := .int _ _) rfl rfl) rfl ?_
                        refine w_pure want_none (y_neq rfl rfl rfl rfl) rfl ?_
                        refine w_pure want_none (y_move (v := .bool _) rfl rfl) rfl ?_
                        refine w_split (fun h243 => ?_) (fun h243 => ?_)
                        ·
                          try simp only [Bool.not_eq_true', Bool.not_eq_false', decide_eq_true_eq, decide_eq_false_iff_not, Int.not_lt, Int.not_le] at h243
                          refine w_pure (want_yes rfl rfl rfl) (y_move (v := .int _ _) rfl rfl) rfl ?_
                          refine w_pure (want_yes rfl rfl rfl) (y_neq rfl rfl rfl rfl) rfl ?_
                          refine w_pure want_none (y_pickT (v := .bool _) rfl rfl rfl rfl) rfl ?_
                          refine w_nil ?_
                          refine q_then (hK241 _ _ ?_)
                          refine w_cond rfl rfl (fun h244 => ?_) (fun h244 => ?_)
                          ·
                            exfalso
                            try simp only [Bool.not_eq_true', Bool.not_eq_false', decide_eq_true_eq, decide_eq_false_iff_not, Int.not_lt, Int.not_le] at h244
                            omega
                          ·
                            try simp only [Bool.not_eq_true', Bool.not_eq_false', decide_eq_true_eq, decide_eq_false_iff_not, Int.not_lt, Int.not_le] at h244
                            refine w_skip ?_
                            refine q_then (hK239 _ _ ?_)
                            refine w_region ?_
                            refine w_pure want_none (y_move (v := .int _ _) rfl rfl) rfl ?_
                            refine w_pure want_none (y_move (v := .int _ _) rfl rfl) rfl ?_
                            refine w_pure want_none (y_max2 rfl rfl rfl rfl) rfl ?_
                            refine w_pure want_none (y_move (v := .bool _) rfl rfl) rfl ?_
                            refine w_pure want_none (y_move (v := .bool _) rfl rfl) rfl ?_
                            refine w_split (fun h245 => ?_) (fun h245 => ?_)
                            ·
                              try simp only [Bool.not_eq_true', Bool.not_eq_false', decide_eq_true_eq, decide_eq_false_iff_not, Int.not_lt, Int.not_le] at h245
                              refine w_skipop rfl rfl rfl ?_
                              refine w_skipop rfl rfl rfl ?_
                              refine w_pure want_none (y_pickT (v := _) rfl rfl rfl rfl) rfl ?_
                              refine w_pure want_none (y_assign (v := .int _ _) rfl rfl) rfl ?_
                              refine w_pure want_none (y_assign (v := .bool _) rfl rfl) rfl ?_
                              refine w_nil ?_
                              refine q_blk_normal ?_
                              refine q_then (hK218 _ _ ?_)
                              refine w_region ?_
                              refine w_pure want_none (y_move (v := .int _ _) rfl rfl) rfl ?_
                              refine w_pure want_none (y_add rfl rfl rfl rfl (by omega) (by omega)) rfl ?_
                              refine w_pure want_none (y_assign (v := .int _ _) rfl rfl) rfl ?_
                              refine w_nil ?_
                              refine q_then (hN210 _ _ (Nx.intro ((p.chi - p.clo + 1 - (q + 1 : Nat)).toNat) (by omega) (by repeat (first | exact agree_mix | refine agree_upd rfl ?_ | refine agree_updL rfl ?_ _ | refine agree_mixin rfl ?_)) ?_))
                              exact ⟨q + 1, _, by rw [fullTUpto_succ (never_ p.farms.length) 0 (by omega), Bool.not_and, ← hm, ← iff_dec ho3]; simp [h16, h51, h52, h53, h54, h59, h196, h197, h198, h217, h243, h244, h245], vb3 (by omega) rfl (by omega), by omega, rfl, hs238.drop.tail⟩
                            ·
                              try simp only [Bool.not_eq_true', Bool.not_eq_false', decide_eq_true_eq, decide_eq_false_iff_not, Int.not_lt, Int.not_le] at h245
                              refine w_pure (want_yes rfl rfl rfl) (y_move (v := .int _ _) rfl rfl) rfl ?_
                              refine w_pure (want_yes rfl rfl rfl) (y_neq rfl rfl rfl rfl) rfl ?_
                              refine w_pure want_none (y_pickF (v := .bool _) rfl rfl rfl rfl) rfl ?_
                              refine w_pure want_none (y_assign (v := .int _ _) rfl rfl) rfl ?_
                              refine w_pure want_none (y_assign (v := .bool _) rfl rfl) rfl ?_
                              refine w_nil ?_
                              refine q_blk_normal ?_
                              refine q_then (hK218 _ _ ?_)
                              refine w_region ?_
                              refine w_pure want_none (y_move (v := .int _ _) rfl rfl) rfl ?_
                              refine w_pure want_none (y_add rfl rfl rfl rfl (by omega) (by omega)) rfl ?_
                              refine w_pure want_none (y_assign (v := .int _ _) rfl rfl) rfl ?_
                              refine w_nil ?_
                              refine q_then (hN210 _ _ (Nx.intro ((p.chi - p.clo + 1 - (q + 1 : Nat)).toNat) (by omega) (by repeat (first | exact agree_mix | refine agree_upd rfl ?_ | refine agree_updL rfl ?_ _ | refine agree_mixin rfl ?_)) ?_))
                              exact ⟨q + 1, _, by rw [fullTUpto_succ (never_ p.farms.length) 0 (by omega), Bool.not_and, ← hm, ← iff_dec ho3]; simp [h16, h51, h52, h53, h54, h59, h196, h197, h198, h217, h243, h244, h245], vb3 (by omega) rfl (by omega), by omega, rfl, hs238.drop.tail⟩
                        ·
                          try simp only [Bool.not_eq_true', Bool.not_eq_false', decide_eq_true_eq, decide_eq_false_iff_not, Int.not_lt, Int.not_le] at h243
                          refine w_skipop rfl rfl rfl ?_
                          refine w_skipop rfl rfl rfl ?_
                          refine w_pure want_none (y_pickF (v := _) rfl rfl rfl rfl) rfl ?_
                          refine w_nil ?_
                          refine q_then (hK241 _ _ ?_)
                          refine w_condF rfl rfl ?_
                          refine w_skip ?_
                          refine q_then (hK239 _ _ ?_)
                          refine w_region ?_
                          refine w_pure want_none (y_move (v := .int _ _) rfl rfl) rfl ?_
                          refine w_pure want_none (y_move (v := .int _ _) rfl rfl) rfl ?_
                          refine w_pure want_none (y_max2 rfl rfl rfl rfl) rfl ?_
                          refine w_pure want_none (y_move (v := .bool _) rfl rfl) rfl ?_
                          refine w_pure want_none (y_move (v := .bool _) rfl rfl) rfl ?_
                          refine w_split (fun h246 => ?_) (fun h246 => ?_)
                          ·
                            try simp only [Bool.not_eq_true', Bool.not_eq_false', decide_eq_true_eq, decide_eq_false_iff_not, Int.not_lt, Int.not_le] at h246
                            refine w_skipop rfl rfl rfl ?_
                            refine w_skipop rfl rfl rfl ?_
                            refine w_pure want_none (y_pickT (v := _) rfl rfl rfl rfl) rfl ?_
                            refine w_pure want_none (y_assign (v := .int _ _) rfl rfl) rfl ?_
                            refine w_pure want_none (y_assign (v := .bool _) rfl rfl) rfl ?_
                            refine w_nil ?_
                            refine q_blk_normal ?_
                            refine q_then (hK218 _ _ ?_)
                            refine w_region ?_
                            refine w_pure want_none (y_move (v := .int _ _) rfl rfl) rfl ?_
                            refine w_pure want_none (y_add rfl rfl rfl rfl (by omega) (by omega)) rfl ?_
                            refine w_pure want_none (y_assign (v := .int _ _) rfl rfl) rfl ?_
                            refine w_nil ?_
                            refine q_then (hN210 _ _ (Nx.intro ((p.chi - p.clo + 1 - (q + 1 : Nat)).toNat) (by omega) (by repeat (first | exact agree_mix | refine agree_upd rfl ?_ | refine agree_updL rfl ?_ _ | refine agree_mixin rfl ?_)) ?_))
                            exact ⟨q + 1, _, by rw [fullTUpto_succ (never_ p.farms.length) 0 (by omega), Bool.not_and, ← hm, ← iff_dec ho3]; simp [h16, h51, h52, h53, h54, h59, h196, h197, h198, h217, h243, h246], vb3 (by omega) rfl (by omega), by omega, rfl, hs238.drop.tail⟩
                          ·
                            try simp only [Bool.not_eq_true', Bool.not_eq_false', decide_eq_true_eq, decide_eq_false_iff_not, Int.not_lt, Int.not_le] at h246
                            refine w_pure (want_yes rfl rfl rfl) (y_move (v := .int _ _) rfl rfl) rfl ?_
                            refine w_pure (want_yes rfl rfl rfl) (y_neq rfl rfl rfl rfl) rfl ?_
                            refine w_pure want_none (y_pickF (v := .bool _) rfl rfl rfl rfl) rfl ?_
                            refine w_pure want_none (y_assign (v := .int _ _) rfl rfl) rfl ?_
                            refine w_pure want_none (y_assign (v := .bool _) rfl rfl) rfl ?_
                            refine w_nil ?_
                            refine q_blk_normal ?_
                            refine q_then (hK218 _ _ ?_)
                            refine w_region ?_
                            refine w_pure want_none (y_move (v := .int _ _) rfl rfl) rfl ?_
                            refine w_pure want_none (y_add rfl rfl rfl rfl (by omega) (by omega)) rfl ?_
                            refine w_pure want_none (y_assign (v := .int _ _) rfl rfl) rfl ?_
                            refine w_nil ?_
                            refine q_then (hN210 _ _ (Nx.intro ((p.chi - p.clo + 1 - (q + 1 : Nat)).toNat) (by omega) (by repeat (first | exact agree_mix | refine agree_upd rfl ?_ | refine agree_updL rfl ?_ _ | refine agree_mixin rfl ?_)) ?_))
                            exact ⟨q + 1, _, by rw [fullTUpto_succ (never_ p.farms.length) 0 (by omega), Bool.not_and, ← hm, ← iff_dec ho3]; simp [h16, h51, h52, h53, h54, h59, h196, h197, h198, h217, h243, h246], vb3 (by omega) rfl (by omega), by omega, rfl, hs238.drop.tail⟩
                      ·
                        try simp only [Bool.not_eq_true', Bool.not_eq_false', decide_eq_true_eq, decide_eq_false_iff_not, Int.not_lt, Int.not_le] at h217
                        refine w_exit ?_
                        refine q_then_exit ?_
                        refine q_then_exit ?_
                        refine q_blk_this ?_
                        refine q_then (hK206 _ _ ?_)
                        refine w_seq (fun K248 hK247 => ?_)
                        refine w_seq (fun K250 hK249 => ?_)
                        rw [fullTUpto_all (never_ p.farms.length) 0 (by omega)] at hm
                        refine w_region ?_
                        refine w_pure want_none (y_move (v := .bool _) rfl rfl) rfl ?_
                        refine w_nil ?_
                        refine q_then (hK249 _ _ ?_)
                        refine w_cond rfl rfl (fun h251 => ?_) (fun h251 => ?_)
                        ·
                          try simp only [Bool.not_eq_true', Bool.not_eq_false', decide_eq_true_eq, decide_eq_false_iff_not, Int.not_lt, Int.not_le] at h251
                          refine w_seq (fun K253 hK252 => ?_)
                          have htz2 := htz.2 (by simpa [h16, h51, h52, h53, h54, h59, h196, h197, h198, h217, h251] using hm.symm)
                          refine w_region ?_
                          refine w_pure want_none (y_move (v := .int _ _) rfl rfl) rfl ?_
                          refine w_pure want_none (y_eql rfl rfl rfl rfl) rfl ?_
                          refine w_pure want_none (y_move (v := .bool _) rfl rfl) rfl ?_
                          refine w_split (fun h254 => ?_) (fun h254 => ?_)
                          ·
                            try simp only [Bool.not_eq_true', Bool.not_eq_false', decide_eq_true_eq, decide_eq_false_iff_not, Int.not_lt, Int.not_le] at h254
                            refine w_call (want_yes rfl rfl rfl) Try.call23 rfl rfl rfl rfl (c23 hs) ?_
                            rintro _ w256 ⟨rfl, hs257⟩
                            refine w_pure want_none (y_pickT (v := .bool _) rfl rfl rfl rfl) rfl ?_
                            refine w_pure want_none (y_assign (v := .bool _) rfl rfl) rfl ?_
                            refine w_nil ?_
                            refine q_then (hK252 _ _ ?_)
                            refine w_ret ?_
                            refine q_then_ret ?_
                            refine q_ret (l := [.tmp 4]) (vs := [_]) rfl ⟨⟨rfl, show _ = (.bool _ : Value) from rfl⟩, trivial⟩ ?_
                            exact ⟨rfl, hs257.drop.tail.tail⟩
                          ·
                            exfalso
                            try simp only [Bool.not_eq_true', Bool.not_eq_false', decide_eq_true_eq, decide_eq_false_iff_not, Int.not_lt, Int.not_le] at h254
                            omega
                        ·
                          try simp only [Bool.not_eq_true', Bool.not_eq_false', decide_eq_true_eq, decide_eq_false_iff_not, Int.not_lt, Int.not_le] at h251
                          refine w_skip ?_
                          refine q_then (hK247 _ _ ?_)
                          refine w_seq (fun K259 hK258 => ?_)
                          have htz1 := htz.1 (by simpa [h16, h51, h52, h53, h54, h59, h196, h197, h198, h217, h251] using hm.symm)
                          refine w_region ?_
                          refine w_pure want_none (y_move (v := .int _ _) rfl rfl) rfl ?_
                          refine w_pure want_none (y_eql rfl rfl rfl rfl) rfl ?_
                          refine w_pure want_none (y_move (v := .bool _) rfl rfl) rfl ?_
                          refine w_split (fun h260 => ?_) (fun h260 => ?_)
                          ·
                            try simp only [Bool.not_eq_true', Bool.not_eq_false', decide_eq_true_eq, decide_eq_false_iff_not, Int.not_lt, Int.not_le] at h260
                            refine w_pure (want_yes rfl rfl rfl) (y_move (v := .int _ _) rfl rfl) rfl ?_
                            refine w_pure (want_yes rfl rfl rfl) (y_move (v := .int _ _) rfl rfl) rfl ?_
                            refine w_pure (want_yes rfl rfl rfl) (y_eql rfl rfl rfl rfl) rfl ?_
                            refine w_pure want_none (y_pickT (v := .bool _) rfl rfl rfl rfl) rfl ?_
                            refine w_pure want_none (y_move (v := .bool _) rfl rfl) rfl ?_
                            refine w_split (fun h261 => ?_) (fun h261 => ?_)
                            ·
                              try simp only [Bool.not_eq_true', Bool.not_eq_false', decide_eq_true_eq, decide_eq_false_iff_not, Int.not_lt, Int.not_le] at h261
                              refine w_call (want_yes rfl rfl rfl) Try.call23 rfl rfl rfl rfl (c23 hs) ?_
                              rintro _ w263 ⟨rfl, hs264⟩
                              refine w_pure want_none (y_pickT (v := .bool _) rfl rfl rfl rfl) rfl ?_
                              refine w_pure want_none (y_assign (v := .bool _) rfl rfl) rfl ?_
                              refine w_nil ?_
                              refine q_then (hK258 _ _ ?_)
                              refine w_ret ?_
                              refine q_ret (l := [.tmp 4]) (vs := [_]) rfl ⟨⟨rfl, show _ = (.bool _ : Value) from rfl⟩, trivial⟩ ?_
                              exact ⟨rfl, hs264.drop.tail.tail⟩
                            ·
                              exfalso
                              try simp only [Bool.not_eq_true', Bool.not_eq_false', decide_eq_true_eq, decide_eq_false_iff_not, Int.not_lt, Int.not_le] at h261
                              omega
                          ·
                            exfalso
                            try simp only [Bool.not_eq_true', Bool.not_eq_false', decide_eq_true_eq, decide_eq_false_iff_not, Int.not_lt, Int.not_le] at h260
                            omega
              ·
                try simp only [Bool.not_eq_true', Bool.not_eq_false', decide_eq_true_eq, decide_eq_false_iff_not, Int.not_lt, Int.not_le] at h196
                refine w_skipop rfl rfl rfl ?_
                refine w_skipop rfl rfl rfl ?_
                refine w_skipop rfl rfl rfl ?_
                refine w_skipop' rfl rfl rfl ?_
                refine w_skipop' rfl rfl rfl ?_
                refine w_skipop' rfl rfl rfl ?_
                refine w_skipop rfl rfl rfl ?_
                refine w_pure (want_yes rfl rfl rfl) (y_pickF (v := _) rfl rfl rfl rfl) rfl ?_
                refine w_pure want_none (y_pickF (v := .bool _) rfl rfl rfl rfl) rfl ?_
                refine w_nil ?_
                refine q_then (hK57 _ _ ?_)
                refine w_condF rfl rfl ?_
                refine w_skip ?_
                refine q_then (hK55 _ _ ?_)
                refine w_seq (fun K266 hK265 => ?_)
                refine w_region ?_
                refine w_pure want_none (y_loadN (vs := [_, _, _, _]) Try.isAgg26 Try.sizeOf26 hs46.drop.tail rfl rfl hbx2) rfl ?_
                refine w_call want_none Try.call33 rfl rfl rfl rfl (c33 p _ _ (by omega) (by omega) ha.cons.cons.app hnm 0 hs46) ?_
                rintro _ w268 ⟨rfl, hs269⟩
                refine w_pure want_none (y_move (v := .tuple _) rfl rfl) rfl ?_
                refine w_pure want_none (y_extract (v := .int _ _) rfl rfl rfl) rfl ?_
                refine w_pure want_none (y_extract (v := .int _ _) rfl rfl rfl) rfl ?_
                refine w_pure want_none (y_assign (v := .int _ _) rfl rfl) rfl ?_
                refine w_pure want_none (y_assign (v := .int _ _) rfl rfl) rfl ?_
                refine w_nil ?_
                refine q_then (hK265 _ _ ?_)
                refine w_seq (fun K271 hK270 => ?_)
                have htz := told_zero hck
                refine w_region ?_
                refine w_pure want_none (y_assign (v := _) rfl rfl) rfl ?_
                refine w_pure want_none (y_assign (v := _) rfl rfl) rfl ?_
                refine w_nil ?_
                refine q_then (hK270 _ _ ?_)
                refine w_seq (fun K273 hK272 => ?_)
                refine w_seq (fun K275 hK274 => ?_)
                refine w_region ?_
                refine w_pure want_none (y_fieldAddr (o := 1) (i := 1) Try.underlying26 rfl Try.sizeOf23 rfl rfl rfl) rfl ?_
                refine w_pure want_none (y_fieldAddr (o := 0) (i := 0) Try.underlying23 rfl Try.sizeOf3 rfl rfl rfl) rfl ?_
                refine w_pure want_none (y_load1 Try.isAgg3 hs269.drop.tail rfl rfl (show Ats _ _ _ _ [_] from Ats.part hbx2 1 1)) rfl ?_
                refine w_pure want_none (y_assign (v := .int _ _) rfl rfl) rfl ?_
                refine w_nil ?_
                refine q_then (hK274 _ _ ?_)
                refine w_block ?_
                refine w_loop [4, 18, 19, 20, 21, 22, 23, 24, 110, 111, 112, 113, 114, 115, 116, 117, 118, 119, 120, 121, 122, 123, 124, 125, 126, 127, 128, 129, 130, 131, 132, 133, 134, 135, 136, 137, 138, 139, 140, 141] [18, 19, 20] (fun kk vs w => ∃ (q : Nat) (m : Bool), m = !(fullTUpto p (never_ p.farms.length) 0 q) ∧ vs = [.int .i64 0, .bool m, .int .i64 (p.clo + q)] ∧ (q : Int) ≤ p.chi - p.clo + 1 ∧ kk = (p.chi - p.clo + 1 - q).toNat ∧ St w0 w (B1 ++ ((b6, blk 65 [.int .u8 x0, .int .u8 x1]) :: (b3, blk 26 (p.cells a c)) :: F))) ((p.chi - p.clo + 1).toNat) ?_ ?_
                ·
                  exact ⟨0, false, by simp [fullTUpto], vb3 rfl rfl (by omega), by omega, by simp, hs269⟩
                ·
                  intro k vs μ w278 hI K277 hN276
                  obtain ⟨q, m, hm, rfl, hq, rfl, hs⟩ := hI
                  refine w_seq (fun K280 hK279 => ?_)
                  refine w_seq (fun K282 hK281 => ?_)
                  refine w_region ?_
                  refine w_pure want_none (y_move (v := .int _ _) rfl rfl) rfl ?_
                  refine w_pure want_none (y_fieldAddr (o := 1) (i := 1) Try.underlying26 rfl Try.sizeOf23 rfl rfl rfl) rfl ?_
                  refine w_pure want_none (y_fieldAddr (o := 1) (i := 1) Try.underlying23 rfl Try.sizeOf3 rfl rfl rfl) rfl ?_
                  refine w_pure want_none (y_load1 Try.isAgg3 hs.drop.tail rfl rfl (show Ats _ _ _ _ [_] from Ats.part hbx2 2 1)) rfl ?_
                  refine w_pure want_none (y_leq rfl rfl rfl rfl) rfl ?_
                  refine w_nil ?_
                  refine q_then (hK281 _ _ ?_)
                  refine w_cond rfl rfl (fun h283 => ?_) (fun h283 => ?_)
                  ·
                    try simp only [Bool.not_eq_true', Bool.not_eq_false', decide_eq_true_eq, decide_eq_false_iff_not, Int.not_lt, Int.not_le] at h283
                    refine w_skip ?_
                    refine q_then (hK279 _ _ ?_)
                    refine w_seq (fun K285 hK284 => ?_)
                    refine w_block ?_
                    refine w_seq (fun K287 hK286 => ?_)
                    refine w_region ?_
                    refine w_pure want_none (y_loadN (vs := [_, _, _, _]) Try.isAgg26 Try.sizeOf26 hs.drop.tail rfl rfl hbx2) rfl ?_
                    refine w_alloc (cs := [_, _, _, _]) want_none Try.zeroValue26 rfl hs (fun b288 w289 hs290 => ?_)
                    refine w_store (i := 0) (v := .agg #[.int _ _, .int _ _, .int _ _, .slice _ _ _]) (vs := [_, _, _, _]) want_none Try.sizeOf26 rfl rfl rfl rfl rfl (by simp [Value.oneCell']) hs290 rfl (Nat.le_of_ble_eq_true rfl) (fun w291 hs292 => ?_)
                    refine w_nil ?_
                    refine q_then (hK286 _ _ ?_)
                    refine w_seq (fun K294 hK293 => ?_)
                    have hone : (oneP p (p.clo + q)).farms.length = p.farms.length := rfl
                    have hday1 : p.clo ≤ p.clo + q := by omega
                    have hday2 : p.clo + q ≤ p.chi := by omega
                    obtain ⟨ho1, ho2, ho3⟩ := one_plan hck hday1 hday2
                    refine w_region ?_
                    refine w_pure want_none (y_move (v := .int _ _) rfl rfl) rfl ?_
                    refine w_pure want_none (y_move (v := .int _ _) rfl rfl) rfl ?_
                    refine w_call want_none Try.call36 rfl rfl rfl rfl (c36 _ _ hs292) ?_
                    rintro _ w296 ⟨rfl, hs297⟩
                    refine w_pure want_none (y_fieldAddr (o := 1) (i := 1) Try.underlying26 rfl Try.sizeOf23 rfl rfl rfl) rfl ?_
                    refine w_store (i := 0) (v := .agg #[.int _ _, .int _ _]) (vs := [_, _]) want_none Try.sizeOf23 rfl rfl rfl rfl rfl (by simp [Value.oneCell']) hs297 rfl (Nat.le_of_ble_eq_true rfl) (fun w298 hs299 => ?_)
                    refine w_nil ?_
                    refine q_then (hK293 _ _ ?_)
                    refine w_seq (fun K301 hK300 => ?_)
                    refine w_region ?_
                    refine w_pure want_none (y_loadN (vs := [_, _, _, _]) Try.isAgg26 Try.sizeOf26 hs299 rfl rfl (ats_own (i := 0) (vs := [_, _, _, _]) rfl rfl)) rfl ?_
                    refine w_call want_none Try.call26 rfl rfl rfl rfl (c26 (oneP p (p.clo + q)) _ _ (by omega) (by omega) ha.cons.cons.app.cons hnm hs299) ?_
                    rintro _ w303 ⟨B3, aq_B3, cq_B3, rfl, h_B3, hs304⟩
                    replace hs304 := (show St _ _ (B3 ++ (_ :: B1 ++ (_ :: _ :: F))) from hs304)
                    refine w_pure want_none (y_move (v := .tuple _) rfl rfl) rfl ?_
                    refine w_pure want_none (y_extract (v := .slice _ _ _) rfl rfl rfl) rfl ?_
                    refine w_pure want_none (y_extract (v := .int _ _) rfl rfl rfl) rfl ?_
                    refine w_pure want_none (y_extract (v := .int _ _) rfl rfl rfl) rfl ?_
                    refine w_pure want_none (y_assign (v := .slice _ _ _) rfl rfl) rfl ?_
                    refine w_pure want_none (y_assign (v := .int _ _) rfl rfl) rfl ?_
                    refine w_pure want_none (y_assign (v := .int _ _) rfl rfl) rfl ?_
                    refine w_nil ?_
                    refine q_then (hK300 _ _ ?_)
                    refine w_seq (fun K306 hK305 => ?_)
                    refine w_seq (fun K308 hK307 => ?_)
                    refine w_region ?_
                    refine w_pure want_none (y_move (v := .int _ _) rfl rfl) rfl ?_
                    refine w_pure want_none (y_neq rfl rfl rfl rfl) rfl ?_
                    refine w_pure want_none (y_move (v := .bool _) rfl rfl) rfl ?_
                    refine w_split (fun h309 => ?_) (fun h309 => ?_)
                    ·
                      try simp only [Bool.not_eq_true', Bool.not_eq_false', decide_eq_true_eq, decide_eq_false_iff_not, Int.not_lt, Int.not_le] at h309
                      refine w_pure (want_yes rfl rfl rfl) (y_move (v := .int _ _) rfl rfl) rfl ?_
                      refine w_pure (want_yes rfl rfl rfl) (y_neq rfl rfl rfl rfl) rfl ?_
                      refine w_pure want_none (y_pickT (v := .bool _) rfl rfl rfl rfl) rfl ?_
                      refine w_nil ?_
                      refine q_then (hK307 _ _ ?_)
                      refine w_cond rfl rfl (fun h310 => ?_) (fun h310 => ?_)
                      ·
                        exfalso
                        try simp only [Bool.not_eq_true', Bool.not_eq_false', decide_eq_true_eq, decide_eq_false_iff_not, Int.not_lt, Int.not_le] at h310
                        omega
                      ·
                        try simp only [Bool.not_eq_true', Bool.not_eq_false', decide_eq_true_eq, decide_eq_false_iff_not, Int.not_lt, Int.not_le] at h310
                        refine w_skip ?_
                        refine q_then (hK305 _ _ ?_)
                        refine w_region ?_
                        refine w_pure want_none (y_move (v := .int _ _) rfl rfl) rfl ?_
                        refine w_pure want_none (y_move (v := .int _ _) rfl rfl) rfl ?_
                        refine w_pure want_none (y_max2 rfl rfl rfl rfl) rfl ?_
                        refine w_pure want_none (y_move (v := .bool _) rfl rfl) rfl ?_
                        refine w_pure want_none (y_move (v := .bool _) rfl rfl) rfl ?_
                        refine w_split (fun h311 => ?_) (fun h311 => ?_)
                        ·
                          try simp only [Bool.not_eq_true', Bool.not_eq_false', decide_eq_true_eq, decide_eq_false_iff_not, Int.not_lt, Int.not_le] at h311
                          refine w_skipop rfl rfl rfl ?_
                          refine w_skipop rfl rfl rfl ?_
                          refine w_pure want_none (y_pickT (v := _) rfl rfl rfl rfl) rfl ?_
                          refine w_pure want_none (y_assign (v := .int _ _) rfl rfl) rfl ?_
                          refine w_pure want_none (y_assign (v := .bool _) rfl rfl) rfl ?_
                          refine w_nil ?_
                          refine q_blk_normal ?_
                          refine q_then (hK284 _ _ ?_)
                          refine w_region ?_
                          refine w_pure want_none (y_move (v := .int _ _) rfl rfl) rfl ?_
                          refine w_pure want_none (y_add rfl rfl rfl rfl (by omega) (by omega)) rfl ?_
                          refine w_pure want_none (y_assign (v := .int _ _) rfl rfl) rfl ?_
                          refine w_nil ?_
                          refine q_then (hN276 _ _ (Nx.intro ((p.chi - p.clo + 1 - (q + 1 : Nat)).toNat) (by omega) (by repeat (first | exact agree_mix | refine agree_upd rfl ?_ | refine agree_updL rfl ?_ _ | refine agree_mixin rfl ?_)) ?_))
                          exact ⟨q + 1, _, by rw [fullTUpto_succ (never_ p.farms.length) 0 (by omega), Bool.not_and, ← hm, ← iff_dec ho3]; simp [h16, h51, h52, h53, h54, h59, h196, h283, h309, h310, h311], vb3 (by omega) rfl (by omega), by omega, rfl, hs304.drop.tail⟩
                        ·
                          try simp only [Bool.not_eq_true', Bool.not_eq_false', decide_eq_true_eq, decide_eq_false_iff_not, Int.not_lt, Int.not_le] at h311
                          refine w_pure (want_yes rfl rfl rfl) (y_move (v := .int _ _) rfl rfl) rfl ?_
                          refine w_pure (want_yes rfl rfl rfl) (y_neq rfl rfl rfl rfl) rfl ?_
                          refine w_pure want_none (y_pickF (v := .bool _) rfl rfl rfl rfl) rfl ?_
                          refine w_pure want_none (y_assign (v := .int _ _) rfl rfl) rfl ?_
                          refine w_pure want_none (y_assign (v := .bool _) rfl rfl) rfl ?_
                          refine w_nil ?_
                          refine q_blk_normal ?_
                          refine q_then (hK284 _ _ ?_)
                          refine w_region ?_
                          refine w_pure want_none (y_move (v := .int _ _) rfl rfl) rfl ?_
                          refine w_pure want_none (y_add rfl rfl rfl rfl (by omega) (by omega)) rfl ?_
                          refine w_pure want_none (y_assign (v := .int _ _) rfl rfl) rfl ?_
                          refine w_nil ?_
                          refine q_then (hN276 _ _ (Nx.intro ((p.chi - p.clo + 1 - (q + 1 : Nat)).toNat) (by omega) (by repeat (first | exact agree_mix | refine agree_upd rfl ?_ | refine agree_updL rfl ?_ _ | refine agree_mixin rfl ?_)) ?_))
                          exact ⟨q + 1, _, by rw [fullTUpto_succ (never_ p.farms.length) 0 (by omega), Bool.not_and, ← hm, ← iff_dec ho3]; simp [h16, h51, h52, h53, h54, h59, h196, h283, h309, h310, h311], vb3 (by omega) rfl (by omega), by omega, rfl, hs304.drop.tail⟩
                    ·
                      try simp only [Bool.not_eq_true', Bool.not_eq_false', decide_eq_true_eq, decide_eq_false_iff_not, Int.not_lt, Int.not_le] at h309
                      refine w_skipop rfl rfl rfl ?_
                      refine w_skipop rfl rfl rfl ?_
                      refine w_pure want_none (y_pickF (v := _) rfl rfl rfl rfl) rfl ?_
                      refine w_nil ?_
                      refine q_then (hK307 _ _ ?_)
                      refine w_condF rfl rfl ?_
                      refine w_skip ?_
                      refine q_then (hK305 _ _ ?_)
                      refine w_region ?_
                      refine w_pure want_none (y_move (v := .int _ _) rfl rfl) rfl ?_
                      refine w_pure want_none (y_move (v := .int _ _) rfl rfl) rfl ?_
                      refine w_pure want_none (y_max2 rfl rfl rfl rfl) rfl ?_
                      refine w_pure want_none (y_move (v := .bool _) rfl rfl) rfl ?_
                      refine w_pure want_none (y_move (v := .bool _) rfl rfl) rfl ?_
                      refine w_split (fun h312 => ?_) (fun h312 => ?_)
                      ·
                        try simp only [Bool.not_eq_true', Bool.not_eq_false', decide_eq_true_eq, decide_eq_false_iff_not, Int.not_lt, Int.not_le] at h312
                        refine w_skipop rfl rfl rfl ?_
                        refine w_skipop rfl rfl rfl ?_
                        refine w_pure want_none (y_pickT (v := _) rfl rfl rfl rfl) rfl ?_
                        refine w_pure want_none (y_assign (v := .int _ _) rfl rfl) rfl ?_
                        refine w_pure want_none (y_assign (v := .bool _) rfl rfl) rfl ?_
                        refine w_nil ?_
                        refine q_blk_normal ?_
                        refine q_then (hK284 _ _ ?_)
                        refine w_region ?_
                        refine w_pure want_none (y_move (v := .int _ _) rfl rfl) rfl ?_
                        refine w_pure want_none (y_add rfl rfl rfl rfl (by omega) (by omega)) rfl ?_
                        refine w_pure want_none (y_assign (v := .int _ _) rfl rfl) rfl ?_
                        refine w_nil ?_
                        refine q_then (hN276 _ _ (Nx.intro ((p.chi - p.clo + 1 - (q + 1 : Nat)).toNat) (by omega) (by repeat (first | exact agree_mix | refine agree_upd rfl ?_ | refine agree_updL rfl ?_ _ | refine agree_mixin rfl ?_)) ?_))
                        exact ⟨q + 1, _, by rw [fullTUpto_succ (never_ p.farms.length) 0 (by omega), Bool.not_and, ← hm, ← iff_dec ho3]; simp [h16, h51, h52, h53, h54, h59, h196, h283, h309, h312], vb3 (by omega) rfl (by omega), by omega, rfl, hs304.drop.tail⟩
                      ·
                        try simp only [Bool.not_eq_true', Bool.not_eq_false', decide_eq_true_eq, decide_eq_false_iff_not, Int.not_lt, Int.not_le] at h312
                        refine w_pure (want_yes rfl rfl rfl) (y_move (v := .int _ _) rfl rfl) rfl ?_
                        refine w_pure (want_yes rfl rfl rfl) (y_neq rfl rfl rfl rfl) rfl ?_
                        refine w_pure want_none (y_pickF (v := .bool _) rfl rfl rfl rfl) rfl ?_
                        refine w_pure want_none (y_assign (v := .int _ _) rfl rfl) rfl ?_
                        refine w_pure want_none (y_assign (v := .bool _) rfl rfl) rfl ?_
                        refine w_nil ?_
                        refine q_blk_normal ?_
                        refine q_then (hK284 _ _ ?_)
                        refine w_region ?_
                        refine w_pure want_none (y_move (v := .int _ _) rfl rfl) rfl ?_
                        refine w_pure want_none (y_add rfl rfl rfl rfl (by omega) (by omega)) rfl ?_
                        refine w_pure want_none (y_assign (v := .int _ _) rfl rfl) rfl ?_
                        refine w_nil ?_
                        refine q_then (hN276 _ _ (Nx.intro ((p.chi - p.clo + 1 - (q + 1 : Nat)).toNat) (by omega) (by repeat (first | exact agree_mix | refine agree_upd rfl ?_ | refine agree_updL rfl ?_ _ | refine agree_mixin rfl ?_)) ?_))
                        exact ⟨q + 1, _, by rw [fullTUpto_succ (never_ p.farms.length) 0 (by omega), Bool.not_and, ← hm, ← iff_dec ho3]; simp [h16, h51, h52, h53, h54, h59, h196, h283, h309, h312], vb3 (by omega) rfl (by omega), by omega, rfl, hs304.drop.tail⟩
                  ·
                    try simp only [Bool.not_eq_true', Bool.not_eq_false', decide_eq_true_eq, decide_eq_false_iff_not, Int.not_lt, Int.not_le] at h283
                    refine w_exit ?_
                    refine q_then_exit ?_
                    refine q_then_exit ?_
                    refine q_blk_this ?_
                    refine q_then (hK272 _ _ ?_)
                    refine w_seq (fun K314 hK313 => ?_)
                    refine w_seq (fun K316 hK315 => ?_)
                    rw [fullTUpto_all (never_ p.farms.length) 0 (by omega)] at hm
                    refine w_region ?_
                    refine w_pure want_none (y_move (v := .bool _) rfl rfl) rfl ?_
                    refine w_nil ?_
                    refine q_then (hK315 _ _ ?_)
                    refine w_cond rfl rfl (fun h317 => ?_) (fun h317 => ?_)
                    ·
                      try simp only [Bool.not_eq_true', Bool.not_eq_false', decide_eq_true_eq, decide_eq_false_iff_not, Int.not_lt, Int.not_le] at h317
                      refine w_seq (fun K319 hK318 => ?_)
                      have htz2 := htz.2 (by simpa [h16, h51, h52, h53, h54, h59, h196, h283, h317] using hm.symm)
                      refine w_region ?_
                      refine w_pure want_none (y_move (v := .int _ _) rfl rfl) rfl ?_
                      refine w_pure want_none (y_eql rfl rfl rfl rfl) rfl ?_
                      refine w_pure want_none (y_move (v := .bool _) rfl rfl) rfl ?_
                      refine w_split (fun h320 => ?_) (fun h320 => ?_)
                      ·
                        try simp only [Bool.not_eq_true', Bool.not_eq_false', decide_eq_true_eq, decide_eq_false_iff_not, Int.not_lt, Int.not_le] at h320
                        refine w_call (want_yes rfl rfl rfl) Try.call23 rfl rfl rfl rfl (c23 hs) ?_
                        rintro _ w322 ⟨rfl, hs323⟩
                        refine w_pure want_none (y_pickT (v := .bool _) rfl rfl rfl rfl) rfl ?_
                        refine w_pure want_none (y_assign (v := .bool _) rfl rfl) rfl ?_
                        refine w_nil ?_
                        refine q_then (hK318 _ _ ?_)
                        refine w_ret ?_
                        refine q_then_ret ?_
                        refine q_ret (l := [.tmp 4]) (vs := [_]) rfl ⟨⟨rfl, show _ = (.bool _ : Value) from rfl⟩, trivial⟩ ?_
                        exact ⟨rfl, hs323.drop.tail.tail⟩
                      ·
                        exfalso
                        try simp only [Bool.not_eq_true', Bool.not_eq_false', decide_eq_true_eq, decide_eq_false_iff_not, Int.not_lt, Int.not_le] at h320
                        omega
                    ·
                      try simp only [Bool.not_eq_true', Bool.not_eq_false', decide_eq_true_eq, decide_eq_false_iff_not, Int.not_lt, Int.not_le] at h317
                      refine w_skip ?_
                      refine q_then (hK313 _ _ ?_)
                      refine w_seq (fun K325 hK324 => ?_)
                      have htz1 := htz.1 (by simpa [h16, h51, h52, h53, h54, h59, h196, h283, h317] using hm.symm)
                      refine w_region ?_
                      refine w_pure want_none (y_move (v := .int _ _) rfl rfl) rfl ?_
                      refine w_pure want_none (y_eql rfl rfl rfl rfl) rfl ?_
                      refine w_pure want_none (y_move (v := .bool _) rfl rfl) rfl ?_
                      refine w_split (fun h326 => ?_) (fun h326 => ?_)
                      ·
                        try simp only [Bool.not_eq_true', Bool.not_eq_false', decide_eq_true_eq, decide_eq_false_iff_not, Int.not_lt, Int.not_le] at h326
                        refine w_pure (want_yes rfl rfl rfl) (y_move (v := .int _ _) rfl rfl) rfl ?_
                        refine w_pure (want_yes rfl rfl rfl) (y_move (v := .int _ _) rfl rfl) rfl ?_
                        refine w_pure (want_yes rfl rfl rfl) (y_eql rfl rfl rfl rfl) rfl ?_
                        refine w_pure want_none (y_pickT (v := .bool _) rfl rfl rfl rfl) rfl ?_
                        refine w_pure want_none (y_move (v := .bool _) rfl rfl) rfl ?_
                        refine w_split (fun h327 => ?_) (fun h327 => ?_)
                        ·
                          try simp only [Bool.not_eq_true', Bool.not_eq_false', decide_eq_true_eq, decide_eq_false_iff_not, Int.not_lt, Int.not_le] at h327
                          refine w_call (want_yes rfl rfl rfl) Try.call23 rfl rfl rfl rfl (c23 hs) ?_
                          rintro _ w329 ⟨rfl, hs330⟩
                          refine w_pure want_none (y_pickT (v := .bool _) rfl rfl rfl rfl) rfl ?_
                          refine w_pure want_none (y_assign (v := .bool _) rfl rfl) rfl ?_
                          refine w_nil ?_
                          refine q_then (hK324 _ _ ?_)
                          refine w_ret ?_
                          refine q_ret (l := [.tmp 4]) (vs := [_]) rfl ⟨⟨rfl, show _ = (.bool _ : Value) from rfl⟩, trivial⟩ ?_
                          exact ⟨rfl, hs330.drop.tail.tail⟩
                        ·
                          exfalso
                          try simp only [Bool.not_eq_true', Bool.not_eq_false', decide_eq_true_eq, decide_eq_false_iff_not, Int.not_lt, Int.not_le] at h327
                          omega
                      ·
                        exfalso
                        try simp only [Bool.not_eq_true', Bool.not_eq_false', decide_eq_true_eq, decide_eq_false_iff_not, Int.not_lt, Int.not_le] at h326
                        omega
    ·
      try simp only [Bool.not_eq_true', Bool.not_eq_false', decide_eq_true_eq, decide_eq_false_iff_not, Int.not_lt, Int.not_le] at h51
      refine w_skipop rfl rfl rfl ?_
      refine w_skipop rfl rfl rfl ?_
      refine w_skipop rfl rfl rfl ?_
      refine w_skipop' rfl rfl rfl ?_
      refine w_skipop' rfl rfl rfl ?_
      refine w_skipop rfl rfl rfl ?_
      refine w_skipop rfl rfl rfl ?_
      refine w_skipop' rfl rfl rfl ?_
      refine w_skipop' rfl rfl rfl ?_
      refine w_skipop rfl rfl rfl ?_
      refine w_pure want_none (y_pickF (v := _) rfl rfl rfl rfl) rfl ?_
      refine w_nil ?_
      refine q_then (hK49 _ _ ?_)
      refine w_condF rfl rfl ?_
      refine w_skip ?_
      refine q_then (hK47 _ _ ?_)
      refine w_seq (fun K332 hK331 => ?_)
      refine w_seq (fun K334 hK333 => ?_)
      refine w_region ?_
      refine w_pure want_none (y_move (v := .int _ _) rfl rfl) rfl ?_
      refine w_pure want_none (y_eql rfl rfl rfl rfl) rfl ?_
      refine w_pure want_none (y_move (v := .bool _) rfl rfl) rfl ?_
      refine w_split (fun h335 => ?_) (fun h335 => ?_)
      ·
        try simp only [Bool.not_eq_true', Bool.not_eq_false', decide_eq_true_eq, decide_eq_false_iff_not, Int.not_lt, Int.not_le] at h335
        refine w_pure (want_yes rfl rfl rfl) (y_move (v := .int _ _) rfl rfl) rfl ?_
        refine w_pure (want_yes rfl rfl rfl) (y_move (v := .int _ _) rfl rfl) rfl ?_
        refine w_pure (want_yes rfl rfl rfl) (y_gtr rfl rfl rfl rfl) rfl ?_
        refine w_pure want_none (y_pickT (v := .bool _) rfl rfl rfl rfl) rfl ?_
        refine w_pure want_none (y_move (v := .bool _) rfl rfl) rfl ?_
        refine w_split (fun h336 => ?_) (fun h336 => ?_)
        ·
          exfalso
          try simp only [Bool.not_eq_true', Bool.not_eq_false', decide_eq_true_eq, decide_eq_false_iff_not, Int.not_lt, Int.not_le] at h336
          omega
        ·
          try simp only [Bool.not_eq_true', Bool.not_eq_false', decide_eq_true_eq, decide_eq_false_iff_not, Int.not_lt, Int.not_le] at h336
          refine w_pure (want_yes rfl rfl rfl) (y_move (v := .int _ _) rfl rfl) rfl ?_
          refine w_pure (want_yes rfl rfl rfl) (y_eql rfl rfl rfl rfl) rfl ?_
          refine w_pure (want_yes rfl rfl rfl) (y_move (v := .bool _) rfl rfl) rfl ?_
          refine w_split (fun h337 => ?_) (fun h337 => ?_)
          ·
            try simp only [Bool.not_eq_true', Bool.not_eq_false', decide_eq_true_eq, decide_eq_false_iff_not, Int.not_lt, Int.not_le] at h337
            refine w_pure (want_yes rfl rfl rfl) (y_move (v := .int _ _) rfl rfl) rfl ?_
            refine w_pure (want_yes rfl rfl rfl) (y_neq rfl rfl rfl rfl) rfl ?_
            refine w_pure (want_yes rfl rfl rfl) (y_move (v := .bool _) rfl rfl) rfl ?_
            refine w_split (fun h338 => ?_) (fun h338 => ?_)
            ·
              exfalso
              try simp only [Bool.not_eq_true', Bool.not_eq_false', decide_eq_true_eq, decide_eq_false_iff_not, Int.not_lt, Int.not_le] at h338
              omega
            ·
              try simp only [Bool.not_eq_true', Bool.not_eq_false', decide_eq_true_eq, decide_eq_false_iff_not, Int.not_lt, Int.not_le] at h338
              refine w_pure (want_yes rfl rfl rfl) (y_move (v := .int _ _) rfl rfl) rfl ?_
              refine w_pure (want_yes rfl rfl rfl) (y_move (v := .int _ _) rfl rfl) rfl ?_
              refine w_pure (want_yes rfl rfl rfl) (y_gtr rfl rfl rfl rfl) rfl ?_
              refine w_pure (want_yes rfl rfl rfl) (y_pickF (v := .bool _) rfl rfl rfl rfl) rfl ?_
              refine w_pure (want_yes rfl rfl rfl) (y_pickT (v := .bool _) rfl rfl rfl rfl) rfl ?_
              refine w_pure want_none (y_pickF (v := .bool _) rfl rfl rfl rfl) rfl ?_
              refine w_nil ?_
              refine q_then (hK333 _ _ ?_)
              refine w_cond rfl rfl (fun h339 => ?_) (fun h339 => ?_)
              ·
                exfalso
                try simp only [Bool.not_eq_true', Bool.not_eq_false', decide_eq_true_eq, decide_eq_false_iff_not, Int.not_lt, Int.not_le] at h339
                omega
              ·
                try simp only [Bool.not_eq_true', Bool.not_eq_false', decide_eq_true_eq, decide_eq_false_iff_not, Int.not_lt, Int.not_le] at h339
                refine w_skip ?_
                refine q_then (hK331 _ _ ?_)
                refine w_seq (fun K341 hK340 => ?_)
                refine w_region ?_
                refine w_pure want_none (y_loadN (vs := [_, _, _, _]) Try.isAgg26 Try.sizeOf26 hs46.drop.tail rfl rfl hbx2) rfl ?_
                refine w_call want_none Try.call33 rfl rfl rfl rfl (c33 p _ _ (by omega) (by omega) ha.cons.cons.app hnm 0 hs46) ?_
                rintro _ w343 ⟨rfl, hs344⟩
                refine w_pure want_none (y_move (v := .tuple _) rfl rfl) rfl ?_
                refine w_pure want_none (y_extract (v := .int _ _) rfl rfl rfl) rfl ?_
                refine w_pure want_none (y_extract (v := .int _ _) rfl rfl rfl) rfl ?_
                refine w_pure want_none (y_assign (v := .int _ _) rfl rfl) rfl ?_
                refine w_pure want_none (y_assign (v := .int _ _) rfl rfl) rfl ?_
                refine w_nil ?_
                refine q_then (hK340 _ _ ?_)
                refine w_seq (fun K346 hK345 => ?_)
                have htz := told_zero hck
                refine w_region ?_
                refine w_pure want_none (y_assign (v := _) rfl rfl) rfl ?_
                refine w_pure want_none (y_assign (v := _) rfl rfl) rfl ?_
                refine w_nil ?_
                refine q_then (hK345 _ _ ?_)
                refine w_seq (fun K348 hK347 => ?_)
                refine w_seq (fun K350 hK349 => ?_)
                refine w_region ?_
                refine w_pure want_none (y_fieldAddr (o := 1) (i := 1) Try.underlying26 rfl Try.sizeOf23 rfl rfl rfl) rfl ?_
                refine w_pure want_none (y_fieldAddr (o := 0) (i := 0) Try.underlying23 rfl Try.sizeOf3 rfl rfl rfl) rfl ?_
                refine w_pure want_none (y_load1 Try.isAgg3 hs344.drop.tail rfl rfl (show Ats _ _ _ _ [_] from Ats.part hbx2 1 1)) rfl ?_
                refine w_pure want_none (y_assign (v := .int _ _) rfl rfl) rfl ?_
                refine w_nil ?_
                refine q_then (hK349 _ _ ?_)
                refine w_block ?_
                refine w_loop [4, 18, 19, 20, 21, 22, 23, 24, 110, 111, 112, 113, 114, 115, 116, 117, 118, 119, 120, 121, 122, 123, 124, 125, 126, 127, 128, 129, 130, 131, 132, 133, 134, 135, 136, 137, 138, 139, 140, 141] [18, 19, 20] (fun kk vs w => ∃ (q : Nat) (m : Bool), m = !(fullTUpto p (never_ p.farms.length) 0 q) ∧ vs = [.int .i64 0, .bool m, .int .i64 (p.clo + q)] ∧ (q : Int) ≤ p.chi - p.clo + 1 ∧ kk = (p.chi - p.clo + 1 - q).toNat ∧ St w0 w (B1 ++ ((b6, blk 65 [.int .u8 x0, .int .u8 x1]) :: (b3, blk 26 (p.cells a c)) :: F))) ((p.chi - p.clo + 1).toNat) ?_ ?_
                ·
                  exact ⟨0, false, by simp [fullTUpto], vb3 rfl rfl (by omega), by omega, by simp, hs344⟩
                ·
                  intro k vs μ w353 hI K352 hN351
                  obtain ⟨q, m, hm, rfl, hq, rfl, hs⟩ := hI
                  refine w_seq (fun K355 hK354 => ?_)
                  refine w_seq (fun K357 hK356 => ?_)
                  refine w_region ?_
                  refine w_pure want_none (y_move (v := .int _ _) rfl rfl) rfl ?_
                  refine w_pure want_none (y_fieldAddr (o := 1) (i := 1) Try.underlying26 rfl Try.sizeOf23 rfl rfl rfl) rfl ?_
                  refine w_pure want_none (y_fieldAddr (o := 1) (i := 1) Try.underlying23 rfl Try.sizeOf3 rfl rfl rfl) rfl ?_
                  refine w_pure want_none (y_load1 Try.isAgg3 hs.drop.tail rfl rfl (show Ats _ _ _ _ [_] from Ats.part hbx2 2 1)) rfl ?_
                  refine w_pure want_none (y_leq rfl rfl rfl rfl) rfl ?_
                  refine w_nil ?_
                  refine q_then (hK356 _ _ ?_)
                  refine w_cond rfl rfl (fun h358 => ?_) (fun h358 => ?_)
                  ·
                    try simp only [Bool.not_eq_true', Bool.not_eq_false', decide_eq_true_eq, decide_eq_false_iff_not, Int.not_lt, Int.not_le] at h358
                    refine w_skip ?_
                    refine q_then (hK354 _ _ ?_)
                    refine w_seq (fun K360 hK359 => ?_)
                    refine w_block ?_
                    refine w_seq (fun K362 hK361 => ?_)
                    refine w_region ?_
                    refine w_pure want_none (y_loadN (vs := [_, _, _, _]) Try.isAgg26 Try.sizeOf26 hs.drop.tail rfl rfl hbx2) rfl ?_
                    refine w_alloc (cs := [_, _, _, _]) want_none Try.zeroValue26 rfl hs (fun b363 w364 hs365 => ?_)
                    refine w_store (i := 0) (v := .agg #[.int _ _, .int _ _, .int _ _, .slice _ _ _]) (vs := [_, _, _, _]) want_none Try.sizeOf26 rfl rfl rfl rfl rfl (by simp [Value.oneCell']) hs365 rfl (Nat.le_of_ble_eq_true rfl) (fun w366 hs367 => ?_)
                    refine w_nil ?_
                    refine q_then (hK361 _ _ ?_)
                    refine w_seq (fun K369 hK368 => ?_)
                    have hone : (oneP p (p.clo + q)).farms.length = p.farms.length := rfl
                    have hday1 : p.clo ≤ p.clo + q := by omega
                    have hday2 : p.clo + q ≤ p.chi := by omega
                    obtain ⟨ho1, ho2, ho3⟩ := one_plan hck hday1 hday2
                    refine w_region ?_
                    refine w_pure want_none (y_move (v := .int _ _) rfl rfl) rfl ?_
                    refine w_pure want_none (y_move (v := .int _ _) rfl rfl) rfl ?_
                    refine w_call want_none Try.call36 rfl rfl rfl rfl (c36 _ _ hs367) ?_
                    rintro _ w371 ⟨rfl, hs372⟩
                    refine w_pure want_none (y_fieldAddr (o := 1) (i := 1) Try.underlying26 rfl Try.sizeOf23 rfl rfl rfl) rfl ?_
                    refine w_store (i := 0) (v := .agg #[.int _ _, .int _ _]) (vs := [_, _]) want_none Try.sizeOf23 rfl rfl rfl rfl rfl (by simp [Value.oneCell']) hs372 rfl (Nat.le_of_ble_eq_true rfl) (fun w373 hs374 => ?_)
                    refine w_nil ?_
                    refine q_then (hK368 _ _ ?_)
                    refine w_seq (fun K376 hK375 => ?_)
                    refine w_region ?_
                    refine w_pure want_none (y_loadN (vs := [_, _, _, _]) Try.isAgg26 Try.sizeOf26 hs374 rfl rfl (ats_own (i := 0) (vs := [_, _, _, _]) rfl rfl)) rfl ?_
                    refine w_call want_none Try.call26 rfl rfl rfl rfl (c26 (oneP p (p.clo + q)) _ _ (by omega) (by omega) ha.cons.cons.app.cons hnm hs374) ?_
                    rintro _ w378 ⟨B3, aq_B3, cq_B3, rfl, h_B3, hs379⟩
                    replace hs379 := (show St _ _ (B3 ++ (_ :: B1 ++ (_ :: _ :: F))) from hs379)
                    refine w_pure want_none (y_move (v := .tuple _) rfl rfl) rfl ?_
                    refine w_pure want_none (y_extract (v := .slice _ _ _) rfl rfl rfl) rfl ?_
                    refine w_pure want_none (y_extract (v := .int _ _) rfl rfl rfl) rfl ?_
                    refine w_pure want_none (y_extract (v := .int _ _) rfl rfl rfl) rfl ?_
                    refine w_pure want_none (y_assign (v := .slice _ _ _) rfl rfl) rfl ?_
                    refine w_pure want_none (y_assign (v := .int _ _) rfl rfl) rfl ?_
                    refine w_pure want_none (y_assign (v := .int _ _) rfl rfl) rfl ?_
                    refine w_nil ?_
                    refine q_then (hK375 _ _ ?_)
                    refine w_seq (fun K381 hK380 => ?_)
                    refine w_seq (fun K383 hK382 => ?_)
                    refine w_region ?_
                    refine w_pure want_none (y_move (v := .int _ _) rfl rfl) rfl ?_
                    refine w_pure want_none (y_neq rfl rfl rfl rfl) rfl ?_
                    refine w_pure want_none (y_move (v := .bool _) rfl rfl) rfl ?_
                    refine w_split (fun h384 => ?_) (fun h384 => ?_)
                    ·
                      try simp only [Bool.not_eq_true', Bool.not_eq_false', decide_eq_true_eq, decide_eq_false_iff_not, Int.not_lt, Int.not_le] at h384
                      refine w_pure (want_yes rfl rfl rfl) (y_move (v := .int _ _) rfl rfl) rfl ?_
                      refine w_pure (want_yes rfl rfl rfl) (y_neq rfl rfl rfl rfl) rfl ?_
                      refine w_pure want_none (y_pickT (v := .bool _) rfl rfl rfl rfl) rfl ?_
                      refine w_nil ?_
                      refine q_then (hK382 _ _ ?_)
                      refine w_cond rfl rfl (fun h385 => ?_) (fun h385 => ?_)
                      ·
                        exfalso
                        try simp only [Bool.not_eq_true', Bool.not_eq_false', decide_eq_true_eq, decide_eq_false_iff_not, Int.not_lt, Int.not_le] at h385
                        omega
                      ·
                        try simp only [Bool.not_eq_true', Bool.not_eq_false', decide_eq_true_eq, decide_eq_false_iff_not, Int.not_lt, Int.not_le] at h385
                        refine w_skip ?_
                        refine q_then (hK380 _ _ ?_)
                        refine w_region ?_
                        refine w_pure want_none (y_move (v := .int _ _) rfl rfl) rfl ?_
                        refine w_pure want_none (y_move (v := .int _ _) rfl rfl) rfl ?_
                        refine w_pure want_none (y_max2 rfl rfl rfl rfl) rfl ?_
                        refine w_pure want_none (y_move (v := .bool _) rfl rfl) rfl ?_
                        refine w_pure want_none (y_move (v := .bool _) rfl rfl) rfl ?_
                        refine w_split (fun h386 => ?_) (fun h386 => ?_)
                        ·
                          try simp only [Bool.not_eq_true', Bool.not_eq_false', decide_eq_true_eq, decide_eq_false_iff_not, Int.not_lt, Int.not_le] at h386
                          refine w_skipop rfl rfl rfl ?_
                          refine w_skipop rfl rfl rfl ?_
                          refine w_pure want_none (y_pickT (v := _) rfl rfl rfl rfl) rfl ?_
                          refine w_pure want_none (y_assign (v := .int _ _) rfl rfl) rfl ?_
                          refine w_pure want_none (y_assign (v := .bool _) rfl rfl) rfl ?_
                          refine w_nil ?_
                          refine q_blk_normal ?_
                          refine q_then (hK359 _ _ ?_)
                          refine w_region ?_
                          refine w_pure want_none (y_move (v := .int _ _) rfl rfl) rfl ?_
                          refine w_pure want_none (y_add rfl rfl rfl rfl (by omega) (by omega)) rfl ?_
                          refine w_pure want_none (y_assign (v := .int _ _) rfl rfl) rfl ?_
                          refine w_nil ?_
                          refine q_then (hN351 _ _ (Nx.intro ((p.chi - p.clo + 1 - (q + 1 : Nat)).toNat) (by omega) (by repeat (first | exact agree_mix | refine agree_upd rfl ?_ | refine agree_updL rfl ?_ _ | refine agree_mixin rfl ?_)) ?_))
                          exact ⟨q + 1, _, by rw [fullTUpto_succ (never_ p.farms.length) 0 (by omega), Bool.not_and, ← hm, ← iff_dec ho3]; simp [h16, h51, h335, h336, h337, h338, h339, h358, h384, h385, h386], vb3 (by omega) rfl (by omega), by omega, rfl, hs379.drop.tail⟩
                        ·
                          try simp only [Bool.not_eq_true', Bool.not_eq_false', decide_eq_true_eq, decide_eq_false_iff_not, Int.not_lt, Int.not_le] at h386
                          refine w_pure (want_yes rfl rfl rfl) (y_move (v := .int _ _) rfl rfl) rfl ?_
                          refine w_pure (want_yes rfl rfl rfl) (y_neq rfl rfl rfl rfl) rfl ?_
                          refine w_pure want_none (y_pickF (v := .bool _) rfl rfl rfl rfl) rfl ?_
                          refine w_pure want_none (y_assign (v := .int _ _) rfl rfl) rfl ?_
                          refine w_pure want_none (y_assign (v := .bool _) rfl rfl) rfl ?_
                          refine w_nil ?_
                          refine q_blk_normal ?_
                          refine q_then (hK359 _ _ ?_)
                          refine w_region ?_
                          refine w_pure want_none (y_move (v := .int _ _) rfl rfl) rfl ?_
                          refine w_pure want_none (y_add rfl rfl rfl rfl (by omega) (by omega)) rfl ?_
                          refine w_pure want_none (y_assign (v := .int _ _) rfl rfl) rfl ?_
                          refine w_nil ?_
                          refine q_then (hN351 _ _ (Nx.intro ((p.chi - p.clo + 1 - (q + 1 : Nat)).toNat) (by omega) (by repeat (first | exact agree_mix | refine agree_upd rfl ?_ | refine agree_updL rfl ?_ _ | refine agree_mixin rfl ?_)) ?_))
                          exact ⟨q + 1, _, by rw [fullTUpto_succ (never_ p.farms.length) 0 (by omega), Bool.not_and, ← hm, ← iff_dec ho3]; simp [h16, h51, h335, h336, h337, h338, h339, h358, h384, h385, h386], vb3 (by omega) rfl (by omega), by omega, rfl, hs379.drop.tail⟩
                    ·
                      try simp only [Bool.not_eq_true', Bool.not_eq_false', decide_eq_true_eq, decide_eq_false_iff_not, Int.not_lt, Int.not_le] at h384
                      refine w_skipop rfl rfl rfl ?_
                      refine w_skipop rfl rfl rfl ?_
                      refine w_pure want_none (y_pickF (v := _) rfl rfl rfl rfl) rfl ?_
                      refine w_nil ?_
                      refine q_then (hK382 _ _ ?_)
                      refine w_condF rfl rfl ?_
                      refine w_skip ?_
                      refine q_then (hK380 _ _ ?_)
                      refine w_region ?_
                      refine w_pure want_none (y_move (v := .int _ _) rfl rfl) rfl ?_
                      refine w_pure want_none (y_move (v := .int _ _) rfl rfl) rfl ?_
                      refine w_pure want_none (y_max2 rfl rfl rfl rfl) rfl ?_
                      refine w_pure want_none (y_move (v := .bool _) rfl rfl) rfl ?_
                      refine w_pure want_none (y_move (v := .bool _) rfl rfl) rfl ?_
                      refine w_split (fun h387 => ?_) (fun h387 => ?_)
                      ·
                        try simp only [Bool.not_eq_true', Bool.not_eq_false', decide_eq_true_eq, decide_eq_false_iff_not, Int.not_lt, Int.not_le] at h387
                        refine w_skipop rfl rfl rfl ?_
                        refine w_skipop rfl rfl rfl ?_
                        refine w_pure want_none (y_pickT (v := _) rfl rfl rfl rfl) rfl ?_
                        refine w_pure want_none (y_assign (v := .int _ _) rfl rfl) rfl ?_
                        refine w_pure want_none (y_assign (v := .bool _) rfl rfl) rfl ?_
                        refine w_nil ?_
                        refine q_blk_normal ?_
                        refine q_then (hK359 _ _ ?_)
                        refine w_region ?_
                        refine w_pure want_none (y_move (v := .int _ _) rfl rfl) rfl ?_
                        refine w_pure want_none (y_add rfl rfl rfl rfl (by omega) (by omega)) rfl ?_
                        refine w_pure want_none (y_assign (v := .int _ _) rfl rfl) rfl ?_
                        refine w_nil ?_
                        refine q_then (hN351 _ _ (Nx.intro ((p.chi - p.clo + 1 - (q + 1 : Nat)).toNat) (by omega) (by repeat (first | exact agree_mix | refine agree_upd rfl ?_ | refine agree_updL rfl ?_ _ | refine agree_mixin rfl ?_)) ?_))
                        exact ⟨q + 1, _, by rw [fullTUpto_succ (never_ p.farms.length) 0 (by omega), Bool.not_and, ← hm, ← iff_dec ho3]; simp [h16, h51, h335, h336, h337, h338, h339, h358, h384, h387], vb3 (by omega) rfl (by omega), by omega, rfl, hs379.drop.tail⟩
                      ·
                        try simp only [Bool.not_eq_true', Bool.not_eq_false', decide_eq_true_eq, decide_eq_false_iff_not, Int.not_lt, Int.not_le] at h387
                        refine w_pure (want_yes rfl rfl rfl) (y_move (v := .int _ _) rfl rfl) rfl ?_
                        refine w_pure (want_yes rfl rfl rfl) (y_neq rfl rfl rfl rfl) rfl ?_
                        refine w_pure want_none (y_pickF (v := .bool _) rfl rfl rfl rfl) rfl ?_
                        refine w_pure want_none (y_assign (v := .int _ _) rfl rfl) rfl ?_
                        refine w_pure want_none (y_assign (v := .bool _) rfl rfl) rfl ?_
                        refine w_nil ?_
                        refine q_blk_normal ?_
                        refine q_then (hK359 _ _ ?_)
                        refine w_region ?_
                        refine w_pure want_none (y_move (v := .int _ _) rfl rfl) rfl ?_
                        refine w_pure want_none (y_add rfl rfl rfl rfl (by omega) (by omega)) rfl ?_
                        refine w_pure want_none (y_assign (v := .int _ _) rfl rfl) rfl ?_
                        refine w_nil ?_
                        refine q_then (hN351 _ _ (Nx.intro ((p.chi - p.clo + 1 - (q + 1 : Nat)).toNat) (by omega) (by repeat (first | exact agree_mix | refine agree_upd rfl ?_ | refine agree_updL rfl ?_ _ | refine agree_mixin rfl ?_)) ?_))
                        exact ⟨q + 1, _, by rw [fullTUpto_succ (never_ p.farms.length) 0 (by omega), Bool.not_and, ← hm, ← iff_dec ho3]; simp [h16, h51, h335, h336, h337, h338, h339, h358, h384, h387], vb3 (by omega) rfl (by omega), by omega, rfl, hs379.drop.tail⟩
                  ·
                    try simp only [Bool.not_eq_true', Bool.not_eq_false', decide_eq_true_eq, decide_eq_false_iff_not, Int.not_lt, Int.not_le] at h358
                    refine w_exit ?_
                    refine q_then_exit ?_
                    refine q_then_exit ?_
                    refine q_blk_this ?_
                    refine q_then (hK347 _ _ ?_)
                    refine w_seq (fun K389 hK388 => ?_)
                    refine w_seq (fun K391 hK390 => ?_)
                    rw [fullTUpto_all (never_ p.farms.length) 0 (by omega)] at hm
                    refine w_region ?_
                    refine w_pure want_none (y_move (v := .bool _) rfl rfl) rfl ?_
                    refine w_nil ?_
                    refine q_then (hK390 _ _ ?_)
                    refine w_cond rfl rfl (fun h392 => ?_) (fun h392 => ?_)
                    ·
                      try simp only [Bool.not_eq_true', Bool.not_eq_false', decide_eq_true_eq, decide_eq_false_iff_not, Int.not_lt, Int.not_le] at h392
                      refine w_seq (fun K394 hK393 => ?_)
                      have htz2 := htz.2 (by simpa [h16, h51, h335, h336, h337, h338, h339, h358, h392] using hm.symm)
                      refine w_region ?_
                      refine w_pure want_none (y_move (v := .int _ _) rfl rfl) rfl ?_
                      refine w_pure want_none (y_eql rfl rfl rfl rfl) rfl ?_
                      refine w_pure want_none (y_move (v := .bool _) rfl rfl) rfl ?_
                      refine w_split (fun h395 => ?_) (fun h395 => ?_)
                      ·
                        try simp only [Bool.not_eq_true', Bool.not_eq_false', decide_eq_true_eq, decide_eq_false_iff_not, Int.not_lt, Int.not_le] at h395
                        refine w_call (want_yes rfl rfl rfl) Try.call23 rfl rfl rfl rfl (c23 hs) ?_
                        rintro _ w397 ⟨rfl, hs398⟩
                        refine w_pure want_none (y_pickT (v := .bool _) rfl rfl rfl rfl) rfl ?_
                        refine w_pure want_none (y_assign (v := .bool _) rfl rfl) rfl ?_
                        refine w_nil ?_
                        refine q_then (hK393 _ _ ?_)
                        refine w_ret ?_
                        refine q_then_ret ?_
                        refine q_ret (l := [.tmp 4]) (vs := [_]) rfl ⟨⟨rfl, show _ = (.bool _ : Value) from rfl⟩, trivial⟩ ?_
                        exact ⟨rfl, hs398.drop.tail.tail⟩
                      ·
                        exfalso
                        try simp only [Bool.not_eq_true', Bool.not_eq_false', decide_eq_true_eq, decide_eq_false_iff_not, Int.not_lt, Int.not_le] at h395
                        omega
                    ·
                      try simp only [Bool.not_eq_true', Bool.not_eq_false', decide_eq_true_eq, decide_eq_false_iff_not, Int.not_lt, Int.not_le] at h392
                      refine w_skip ?_
                      refine q_then (hK388 _ _ ?_)
                      refine w_seq (fun K400 hK399 => ?_)
                      have htz1 := htz.1 (by simpa [h16, h51, h335, h336, h337, h338, h339, h358, h392] using hm.symm)
                      refine w_region ?_
                      refine w_pure want_none (y_move (v := .int _ _) rfl rfl) rfl ?_
                      refine w_pure want_none (y_eql rfl rfl rfl rfl) rfl ?_
                      refine w_pure want_none (y_move (v := .bool _) rfl rfl) rfl ?_
                      refine w_split (fun h401 => ?_) (fun h401 => ?_)
                      ·
                        try simp only [Bool.not_eq_true', Bool.not_eq_false', decide_eq_true_eq, decide_eq_false_iff_not, Int.not_lt, Int.not_le] at h401
                        refine w_pure (want_yes rfl rfl rfl) (y_move (v := .int _ _) rfl rfl) rfl ?_
                        refine w_pure (want_yes rfl rfl rfl) (y_move (v := .int _ _) rfl rfl) rfl ?_
                        refine w_pure (want_yes rfl rfl rfl) (y_eql rfl rfl rfl rfl) rfl ?_
                        refine w_pure want_none (y_pickT (v := .bool _) rfl rfl rfl rfl) rfl ?_
                        refine w_pure want_none (y_move (v := .bool _) rfl rfl) rfl ?_
                        refine w_split (fun h402 => ?_) (fun h402 => ?_)
                        ·
                          try simp only [Bool.not_eq_true', Bool.not_eq_false', decide_eq_true_eq, decide_eq_false_iff_not, Int.not_lt, Int.not_le] at h402
                          refine w_call (want_yes rfl rfl rfl) Try.call23 rfl rfl rfl rfl (c23 hs) ?_
                          rintro _ w404 ⟨rfl, hs405⟩
                          refine w_pure want_none (y_pickT (v := .bool _) rfl rfl rfl rfl) rfl ?_
                          refine w_pure want_none (y_assign (v := .bool _) rfl rfl) rfl ?_
                          refine w_nil ?_
                          refine q_then (hK399 _ _ ?_)
                          refine w_ret ?_
                          refine q_ret (l := [.tmp 4]) (vs := [_]) rfl ⟨⟨rfl, show _ = (.bool _ : Value) from rfl⟩, trivial⟩ ?_
                          exact ⟨rfl, hs405.drop.tail.tail⟩
                        ·
                          exfalso
                          try simp only [Bool.not_eq_true', Bool.not_eq_false', decide_eq_true_eq, decide_eq_false_iff_not, Int.not_lt, Int.not_le] at h402
                          omega
                      ·
                        exfalso
                        try simp only [Bool.not_eq_true', Bool.not_eq_false', decide_eq_true_eq, decide_eq_false_iff_not, Int.not_lt, Int.not_le] at h401
                        omega
          ·
            try simp only [Bool.not_eq_true', Bool.not_eq_false', decide_eq_true_eq, decide_eq_false_iff_not, Int.not_lt, Int.not_le] at h337
            refine w_skipop rfl rfl rfl ?_
            refine w_skipop rfl rfl rfl ?_
            refine w_skipop rfl rfl rfl ?_
            refine w_skipop' rfl rfl rfl ?_
            refine w_skipop' rfl rfl rfl ?_
            refine w_skipop' rfl rfl rfl ?_
            refine w_skipop rfl rfl rfl ?_
            refine w_pure (want_yes rfl rfl rfl) (y_pickF (v := _) rfl rfl rfl rfl) rfl ?_
            refine w_pure want_none (y_pickF (v := .bool _) rfl rfl rfl rfl) rfl ?_
            refine w_nil ?_
            refine q_then (hK333 _ _ ?_)
            refine w_condF rfl rfl ?_
            refine w_skip ?_
            refine q_then (hK331 _ _ ?_)
            refine w_seq (fun K407 hK406 => ?_)
            refine w_region ?_
            refine w_pure want_none (y_loadN (vs := [_, _, _, _]) Try.isAgg26 Try.sizeOf26 hs46.drop.tail rfl rfl hbx2) rfl ?_
            refine w_call want_none Try.call33 rfl rfl rfl rfl (c33 p _ _ (by omega) (by omega) ha.cons.cons.app hnm 0 hs46) ?_
            rintro _ w409 ⟨rfl, hs410⟩
            refine w_pure want_none (y_move (v := .tuple _) rfl rfl) rfl ?_
            refine w_pure want_none (y_extract (v := .int _ _) rfl rfl rfl) rfl ?_
            refine w_pure want_none (y_extract (v := .int _ _) rfl rfl rfl) rfl ?_
            refine w_pure want_none (y_assign (v := .int _ _) rfl rfl) rfl ?_
            refine w_pure want_none (y_assign (v := .int _ _) rfl rfl) rfl ?_
            refine w_nil ?_
            refine q_then (hK406 _ _ ?_)
            refine w_seq (fun K412 hK411 => ?_)
            have htz := told_zero hck
            refine w_region ?_
            refine w_pure want_none (y_assign (v := _) rfl rfl) rfl ?_
            refine w_pure want_none (y_assign (v := _) rfl rfl) rfl ?_
            refine w_nil ?_
            refine q_then (hK411 _ _ ?_)
            refine w_seq (fun K414 hK413 => ?_)
            refine w_seq (fun K416 hK415 => ?_)
            refine w_region ?_
            refine w_pure want_none (y_fieldAddr (o := 1) (i := 1) Try.underlying26 rfl Try.sizeOf23 rfl rfl rfl) rfl ?_
            refine w_pure want_none (y_fieldAddr (o := 0) (i := 0) Try.underlying23 rfl Try.sizeOf3 rfl rfl rfl) rfl ?_
            refine w_pure want_none (y_load1 Try.isAgg3 hs410.drop.tail rfl rfl (show Ats _ _ _ _ [_] from Ats.part hbx2 1 1)) rfl ?_
            refine w_pure want_none (y_assign (v := .int _ _) rfl rfl) rfl ?_
            refine w_nil ?_
            refine q_then (hK415 _ _ ?_)
            refine w_block ?_
            refine w_loop [4, 18, 19, 20, 21, 22, 23, 24, 110, 111, 112, 113, 114, 115, 116, 117, 118, 119, 120, 121, 122, 123, 124, 125, 126, 127, 128, 129, 130, 131, 132, 133, 134, 135, 136, 137, 138, 139, 140, 141] [18, 19, 20] (fun kk vs w => ∃ (q : Nat) (m : Bool), m = !(fullTUpto p (never_ p.farms.length) 0 q) ∧ vs = [.int .i64 0, .bool m, .int .i64 (p.clo + q)] ∧ (q : Int) ≤ p.chi - p.clo + 1 ∧ kk = (p.chi - p.clo + 1 - q).toNat ∧ St w0 w (B1 ++ ((b6, blk 65 [.int .u8 x0, .int .u8 x1]) :: (b3, blk 26 (p.cells a c)) :: F))) ((p.chi - p.clo + 1).toNat) ?_ ?_
            ·
              exact ⟨0, false, by simp [fullTUpto], vb3 rfl rfl (by omega), by omega, by simp, hs410⟩
            ·
              intro k vs μ w419 hI K418 hN417
              obtain ⟨q, m, hm, rfl, hq, rfl, hs⟩ := hI
              refine w_seq (fun K421 hK420 => ?_)
              refine w_seq (fun K423 hK422 => ?_)
              refine w_region ?_
              refine w_pure want_none (y_move (v := .int _ _) rfl rfl) rfl ?_
              refine w_pure want_none (y_fieldAddr (o := 1) (i := 1) Try.underlying26 rfl Try.sizeOf23 rfl rfl rfl) rfl ?_
              refine w_pure want_none (y_fieldAddr (o := 1) (i := 1) Try.underlying23 rfl Try.sizeOf3 rfl rfl rfl) rfl ?_
              refine w_pure want_none (y_load1 Try.isAgg3 hs.drop.tail rfl rfl (show Ats _ _ _ _ [_] from Ats.part hbx2 2 1)) rfl ?_
              refine w_pure want_none (y_leq rfl rfl rfl rfl) rfl ?_
              refine w_nil ?_
              refine q_then (hK422 _ _ ?_)
              refine w_cond rfl rfl (fun h424 => ?_) (fun h424 => ?_)
              ·
                try simp only [Bool.not_eq_true', Bool.not_eq_false', decide_eq_true_eq, decide_eq_false_iff_not, Int.not_lt, Int.not_le] at h424
                refine w_skip ?_
                refine q_then (hK420 _ _ ?_)
                refine w_seq (fun K426 hK425 => ?_)
                refine w_block ?_
                refine w_seq (fun K428 hK427 => ?_)
                refine w_region ?_
                refine w_pure want_none (y_loadN (vs := [_, _, _, _]) Try.isAgg26 Try.sizeOf26 hs.drop.tail rfl rfl hbx2) rfl ?_
                refine w_alloc (cs := [_, _, _, _]) want_none Try.zeroValue26 rfl hs (fun b429 w430 hs431 => ?_)
                refine w_store (i := 0) (v := .agg #[.int _ _, .int _ _, .int _ _, .slice _ _ _]) (vs := [_, _, _, _]) want_none Try.sizeOf26 rfl rfl rfl rfl rfl (by simp [Value.oneCell']) hs431 rfl (Nat.le_of_ble_eq_true rfl) (fun w432 hs433 => ?_)
                refine w_nil ?_
                refine q_then (hK427 _ _ ?_)
                refine w_seq (fun K435 hK434 => ?_)
                have hone : (oneP p (p.clo + q)).farms.length = p.farms.length := rfl
                have hday1 : p.clo ≤ p.clo + q := by omega
                have hday2 : p.clo + q ≤ p.chi := by omega
                obtain ⟨ho1, ho2, ho3⟩ := one_plan hck hday1 hday2
                refine w_region ?_
                refine w_pure want_none (y_move (v := .int _ _) rfl rfl) rfl ?_
                refine w_pure want_none (y_move (v := .int _ _) rfl rfl) rfl ?_
                refine w_call want_none Try.call36 rfl rfl rfl rfl (c36 _ _ hs433) ?_
                rintro _ w437 ⟨rfl, hs438⟩
                refine w_pure want_none (y_fieldAddr (o := 1) (i := 1) Try.underlying26 rfl Try.sizeOf23 rfl rfl rfl) rfl ?_
                refine w_store (i := 0) (v := .agg #[.int _ _, .int _ _]) (vs := [_, _]) want_none Try.sizeOf23 rfl rfl rfl rfl rfl (by simp [Value.oneCell']) hs438 rfl (Nat.le_of_ble_eq_true rfl) (fun w439 hs440 => ?_)
                refine w_nil ?_
                refine q_then (hK434 _ _ ?_)
                refine w_seq (fun K442 hK441 => ?_)
                refine w_region ?_
                refine w_pure want_none (y_loadN (vs := [_, _, _, _]) Try.isAgg26 Try.sizeOf26 hs440 rfl rfl (ats_own (i := 0) (vs := [_, _, _, _]) rfl rfl)) rfl ?_
                refine w_call want_none Try.call26 rfl rfl rfl rfl (c26 (oneP p (p.clo + q)) _ _ (by omega) (by omega) ha.cons.cons.app.cons hnm hs440) ?_
                rintro _ w444 ⟨B3, aq_B3, cq_B3, rfl, h_B3, hs445⟩
                replace hs445 := (show St _ _ (B3 ++ (_ :: B1 ++ (_ :: _ :: F))) from hs445)
                refine w_pure want_none (y_move (v := .tuple _) rfl rfl) rfl ?_
                refine w_pure want_none (y_extract (v := .slice _ _ _) rfl rfl rfl) rfl ?_
                refine w_pure want_none (y_extract (v := .int _ _) rfl rfl rfl) rfl ?_
                refine w_pure want_none (y_extract (v := .int _ _) rfl rfl rfl) rfl ?_
                refine w_pure want_none (y_assign (v := .slice _ _ _) rfl rfl) rfl ?_
                refine w_pure want_none (y_assign (v := .int _ _) rfl rfl) rfl ?_
                refine w_pure want_none (y_assign (v := .int _ _) rfl rfl) rfl ?_
                refine w_nil ?_
                refine q_then (hK441 _ _ ?_)
                refine w_seq (fun K447 hK446 => ?_)
                refine w_seq (fun K449 hK448 => ?_)
                refine w_region ?_
                refine w_pure want_none (y_move (v := .int _ _) rfl rfl) rfl ?_
                refine w_pure want_none (y_neq rfl rfl rfl rfl) rfl ?_
                refine w_pure want_none (y_move (v := .bool _) rfl rfl) rfl ?_
                refine w_split (fun h450 => ?_) (fun h450 => ?_)
                ·
                  try simp only [Bool.not_eq_true', Bool.not_eq_false', decide_eq_true_eq, decide_eq_false_iff_not, Int.not_lt, Int.not_le] at h450
                  refine w_pure (want_yes rfl rfl rfl) (y_move (v := .int _ _) rfl rfl) rfl ?_
                  refine w_pure (want_yes rfl rfl rfl) (y_neq rfl rfl rfl rfl) rfl ?_
                  refine w_pure want_none (y_pickT (v := .bool _) rfl rfl rfl rfl) rfl ?_
                  refine w_nil ?_
                  refine q_then (hK448 _ _ ?_)
                  refine w_cond rfl rfl (fun h451 => ?_) (fun h451 => ?_)
                  ·
                    exfalso
                    try simp only [Bool.not_eq_true', Bool.not_eq_false', decide_eq_true_eq, decide_eq_false_iff_not, Int.not_lt, Int.not_le] at h451
                    omega
                  ·
                    try simp only [Bool.not_eq_true', Bool.not_eq_false', decide_eq_true_eq, decide_eq_false_iff_not, Int.not_lt, Int.not_le] at h451
                    refine w_skip ?_
                    refine q_then (hK446 _ _ ?_)
                    refine w_region ?_
                    refine w_pure want_none (y_move (v := .int _ _) rfl rfl) rfl ?_
                    refine w_pure want_none (y_move (v := .int _ _) rfl rfl) rfl ?_
                    refine w_pure want_none (y_max2 rfl rfl rfl rfl) rfl ?_
                    refine w_pure want_none (y_move (v := .bool _) rfl rfl) rfl ?_
                    refine w_pure want_none (y_move (v := .bool _) rfl rfl) rfl ?_
                    refine w_split (fun h452 => ?_) (fun h452 => ?_)
                    ·
                      try simp only [Bool.not_eq_true', Bool.not_eq_false', decide_eq_true_eq, decide_eq_false_iff_not, Int.not_lt, Int.not_le] at h452
                      refine w_skipop rfl rfl rfl ?_
                      refine w_skipop rfl rfl rfl ?_
                      refine w_pure want_none (y_pickT (v := _) rfl rfl rfl rfl) rfl ?_
                      refine w_pure want_none (y_assign (v := .int _ _) rfl rfl) rfl ?_
                      refine w_pure want_none (y_assign (v := .bool _) rfl rfl) rfl ?_
                      refine w_nil ?_
                      refine q_blk_normal ?_
                      refine q_then (hK425 _ _ ?_)
                      refine w_region ?_
                      refine w_pure want_none (y_move (v := .int _ _) rfl rfl) rfl ?_
                      refine w_pure want_none (y_add rfl rfl rfl rfl (by omega) (by omega)) rfl ?_
                      refine w_pure want_none (y_assign (v := .int _ _) rfl rfl) rfl ?_
                      refine w_nil ?_
                      refine q_then (hN417 _ _ (Nx.intro ((p.chi - p.clo + 1 - (q + 1 : Nat)).toNat) (by omega) (by repeat (first | exact agree_mix | refine agree_upd rfl ?_ | refine agree_updL rfl ?_ _ | refine agree_mixin rfl ?_)) ?_))
                      exact ⟨q + 1, _, by rw [fullTUpto_succ (never_ p.farms.length) 0 (by omega), Bool.not_and, ← hm, ← iff_dec ho3]; simp [h16, h51, h335, h336, h337, h424, h450, h451, h452], vb3 (by omega) rfl (by omega), by omega, rfl, hs445.drop.tail⟩
                    ·
                      try simp only [Bool.not_eq_true', Bool.not_eq_false', decide_eq_true_eq, decide_eq_false_iff_not, Int.not_lt, Int.not_le] at h452
                      refine w_pure (want_yes rfl rfl rfl) (y_move (v := .int _ _) rfl rfl) rfl ?_
                      refine w_pure (want_yes rfl rfl rfl) (y_neq rfl rfl rfl rfl) rfl ?_
                      refine w_pure want_none (y_pickF (v := .bool _) rfl rfl rfl rfl) rfl ?_
                      refine w_pure want_none (y_assign (v := .int _ _) rfl rfl) rfl ?_
                      refine w_pure want_none (y_assign (v := .bool _) rfl rfl) rfl ?_
                      refine w_nil ?_
                      refine q_blk_normal ?_
                      refine q_then (hK425 _ _ ?_)
                      refine w_region ?_
                      refine w_pure want_none (y_move (v := .int _ _) rfl rfl) rfl ?_
                      refine w_pure want_none (y_add rfl rfl rfl rfl (by omega) (by omega)) rfl ?_
                      refine w_pure want_none (y_assign (v := .int _ _) rfl rfl) rfl ?_
                      refine w_nil ?_
                      refine q_then (hN417 _ _ (Nx.intro ((p.chi - p.clo + 1 - (q + 1 : Nat)).toNat) (by omega) (by repeat (first | exact agree_mix | refine agree_upd rfl ?_ | refine agree_updL rfl ?_ _ | refine agree_mixin rfl ?_)) ?_))
                      exact ⟨q + 1, _, by rw [fullTUpto_succ (never_ p.farms.length) 0 (by omega), Bool.not_and, ← hm, ← iff_dec ho3]; simp [h16, h51, h335, h336, h337, h424, h450, h451, h452], vb3 (by omega) rfl (by omega), by omega, rfl, hs445.drop.tail⟩
                ·
                  try simp only [Bool.not_eq_true', Bool.not_eq_false', decide_eq_true_eq, decide_eq_false_iff_not, Int.not_lt, Int.not_le] at h450
                  refine w_skipop rfl rfl rfl ?_
                  refine w_skipop rfl rfl rfl ?_
                  refine w_pure want_none (y_pickF (v := _) rfl rfl rfl rfl) rfl ?_
                  refine w_nil ?_
                  refine q_then (hK448 _ _ ?_)
                  refine w_condF rfl rfl ?_
                  refine w_skip ?_
                  refine q_then (hK446 _ _ ?_)
                  refine w_region ?_
                  refine w_pure want_none (y_move (v := .int _ _) rfl rfl) rfl ?_
                  refine w_pure want_none (y_move (v := .int _ _) rfl rfl) rfl ?_
                  refine w_pure want_none (y_max2 rfl rfl rfl rfl) rfl ?_
                  refine w_pure want_none (y_move (v := .bool _) rfl rfl) rfl ?_
                  refine w_pure want_none (y_move (v := .bool _) rfl rfl) rfl ?_
                  refine w_split (fun h453 => ?_) (fun h453 => ?_)
                  ·
                    try simp only [Bool.not_eq_true', Bool.not_eq_false', decide_eq_true_eq, decide_eq_false_iff_not, Int.not_lt, Int.not_le] at h453
                    refine w_skipop rfl rfl rfl ?_
                    refine w_skipop rfl rfl rfl ?_
                    refine w_pure want_none (y_pickT (v := _) rfl rfl rfl rfl) rfl ?_
                    refine w_pure want_none (y_assign (v := .int _ _) rfl rfl) rfl ?_
                    refine w_pure want_none (y_assign (v := .bool _) rfl rfl) rfl ?_
                    refine w_nil ?_
                    refine q_blk_normal ?_
                    refine q_then (hK425 _ _ ?_)
                    refine w_region ?_
                    refine w_pure want_none (y_move (v := .int _ _) rfl rfl) rfl ?_
                    refine w_pure want_none (y_add rfl rfl rfl rfl (by omega) (by omega)) rfl ?_
                    refine w_pure want_none (y_assign (v := .int _ _) rfl rfl) rfl ?_
                    refine w_nil ?_
                    refine q_then (hN417 _ _ (Nx.intro ((p.chi - p.clo + 1 - (q + 1 : Nat)).toNat) (by omega) (by repeat (first | exact agree_mix | refine agree_upd rfl ?_ | refine agree_updL rfl ?_ _ | refine agree_mixin rfl ?_)) ?_))
                    exact ⟨q + 1, _, by rw [fullTUpto_succ (never_ p.farms.length) 0 (by omega), Bool.not_and, ← hm, ← iff_dec ho3]; simp [h16, h51, h335, h336, h337, h424, h450, h453], vb3 (by omega) rfl (by omega), by omega, rfl, hs445.drop.tail⟩
                  ·
                    try simp only [Bool.not_eq_true', Bool.not_eq_false', decide_eq_true_eq, decide_eq_false_iff_not, Int.not_lt, Int.not_le] at h453
                    refine w_pure (want_yes rfl rfl rfl) (y_move (v := .int _ _) rfl rfl) rfl ?_
                    refine w_pure (want_yes rfl rfl rfl) (y_neq rfl rfl rfl rfl) rfl ?_
                    refine w_pure want_none (y_pickF (v := .bool _) rfl rfl rfl rfl) rfl ?_
                    refine w_pure want_none (y_assign (v := .int _ _) rfl rfl) rfl ?_
                    refine w_pure want_none (y_assign (v := .bool _) rfl rfl) rfl ?_
                    refine w_nil ?_
                    refine q_blk_normal ?_
                    refine q_then (hK425 _ _ ?_)
                    refine w_region ?_
                    refine w_pure want_none (y_move (v := .int _ _) rfl rfl) rfl ?_
                    refine w_pure want_none (y_add rfl rfl rfl rfl (by omega) (by omega)) rfl ?_
                    refine w_pure want_none (y_assign (v := .int _ _) rfl rfl) rfl ?_
                    refine w_nil ?_
                    refine q_then (hN417 _ _ (Nx.intro ((p.chi - p.clo + 1 - (q + 1 : Nat)).toNat) (by omega) (by repeat (first | exact agree_mix | refine agree_upd rfl ?_ | refine agree_updL rfl ?_ _ | refine agree_mixin rfl ?_)) ?_))
                    exact ⟨q + 1, _, by rw [fullTUpto_succ (never_ p.farms.length) 0 (by omega), Bool.not_and, ← hm, ← iff_dec ho3]; simp [h16, h51, h335, h336, h337, h424, h450, h453], vb3 (by omega) rfl (by omega), by omega, rfl, hs445.drop.tail⟩
              ·
                try simp only [Bool.not_eq_true', Bool.not_eq_false', decide_eq_true_eq, decide_eq_false_iff_not, Int.not_lt, Int.not_le] at h424
                refine w_exit ?_
                refine q_then_exit ?_
                refine q_then_exit ?_
                refine q_blk_this ?_
                refine q_then (hK413 _ _ ?_)
                refine w_seq (fun K455 hK454 => ?_)
                refine w_seq (fun K457 hK456 => ?_)
                rw [fullTUpto_all (never_ p.farms.length) 0 (by omega)] at hm
                refine w_region ?_
                refine w_pure want_none (y_move (v := .bool _) rfl rfl) rfl ?_
                refine w_nil ?_
                refine q_then (hK456 _ _ ?_)
                refine w_cond rfl rfl (fun h458 => ?_) (fun h458 => ?_)
                ·
                  try simp only [Bool.not_eq_true', Bool.not_eq_false', decide_eq_true_eq, decide_eq_false_iff_not, Int.not_lt, Int.not_le] at h458
                  refine w_seq (fun K460 hK459 => ?_)
                  have htz2 := htz.2 (by simpa [h16, h51, h335, h336, h337, h424, h458] using hm.symm)
                  refine w_region ?_
                  refine w_pure want_none (y_move (v := .int _ _) rfl rfl) rfl ?_
                  refine w_pure want_none (y_eql rfl rfl rfl rfl) rfl ?_
                  refine w_pure want_none (y_move (v := .bool _) rfl rfl) rfl ?_
                  refine w_split (fun h461 => ?_) (fun h461 => ?_)
                  ·
                    try simp only [Bool.not_eq_true', Bool.not_eq_false', decide_eq_true_eq, decide_eq_false_iff_not, Int.not_lt, Int.not_le] at h461
                    refine w_call (want_yes rfl rfl rfl) Try.call23 rfl rfl rfl rfl (c23 hs) ?_
                    rintro _ w463 ⟨rfl, hs464⟩
                    refine w_pure want_none (y_pickT (v := .bool _) rfl rfl rfl rfl) rfl ?_
                    refine w_pure want_none (y_assign (v := .bool _) rfl rfl) rfl ?_
                    refine w_nil ?_
                    refine q_then (hK459 _ _ ?_)
                    refine w_ret ?_
                    refine q_then_ret ?_
                    refine q_ret (l := [.tmp 4]) (vs := [_]) rfl ⟨⟨rfl, show _ = (.bool _ : Value) from rfl⟩, trivial⟩ ?_
                    exact ⟨rfl, hs464.drop.tail.tail⟩
                  ·
                    exfalso
                    try simp only [Bool.not_eq_true', Bool.not_eq_false', decide_eq_true_eq, decide_eq_false_iff_not, Int.not_lt, Int.not_le] at h461
                    omega
                ·
                  try simp only [Bool.not_eq_true', Bool.not_eq_false', decide_eq_true_eq, decide_eq_false_iff_not, Int.not_lt, Int.not_le] at h458
                  refine w_skip ?_
                  refine q_then (hK454 _ _ ?_)
                  refine w_seq (fun K466 hK465 => ?_)
                  have htz1 := htz.1 (by simpa [h16, h51, h335, h336, h337, h424, h458] using hm.symm)
                  refine w_region ?_
                  refine w_pure want_none (y_move (v := .int _ _) rfl rfl) rfl ?_
                  refine w_pure want_none (y_eql rfl rfl rfl rfl) rfl ?_
                  refine w_pure want_none (y_move (v := .bool _) rfl rfl) rfl ?_
                  refine w_split (fun h467 => ?_) (fun h467 => ?_)
                  ·
                    try simp only [Bool.not_eq_true', Bool.not_eq_false', decide_eq_true_eq, decide_eq_false_iff_not, Int.not_lt, Int.not_le] at h467
                    refine w_pure (want_yes rfl rfl rfl) (y_move (v := .int _ _) rfl rfl) rfl ?_
                    refine w_pure (want_yes rfl rfl rfl) (y_move (v := .int _ _) rfl rfl) rfl ?_
                    refine w_pure (want_yes rfl rfl rfl) (y_eql rfl rfl rfl rfl) rfl ?_
                    refine w_pure want_none (y_pickT (v := .bool _) rfl rfl rfl rfl) rfl ?_
                    refine w_pure want_none (y_move (v := .bool _) rfl rfl) rfl ?_
                    refine w_split (fun h468 => ?_) (fun h468 => ?_)
                    ·
                      try simp only [Bool.not_eq_true', Bool.not_eq_false', decide_eq_true_eq, decide_eq_false_iff_not, Int.not_lt, Int.not_le] at h468
                      refine w_call (want_yes rfl rfl rfl) Try.call23 rfl rfl rfl rfl (c23 hs) ?_
                      rintro _ w470 ⟨rfl, hs471⟩
                      refine w_pure want_none (y_pickT (v := .bool _) rfl rfl rfl rfl) rfl ?_
                      refine w_pure want_none (y_assign (v := .bool _) rfl rfl) rfl ?_
                      refine w_nil ?_
                      refine q_then (hK465 _ _ ?_)
                      refine w_ret ?_
                      refine q_ret (l := [.tmp 4]) (vs := [_]) rfl ⟨⟨rfl, show _ = (.bool _ : Value) from rfl⟩, trivial⟩ ?_
                      exact ⟨rfl, hs471.drop.tail.tail⟩
                    ·
                      exfalso
                      try simp only [Bool.not_eq_true', Bool.not_eq_false', decide_eq_true_eq, decide_eq_false_iff_not, Int.not_lt, Int.not_le] at h468
                      omega
                  ·
                    exfalso
                    try simp only [Bool.not_eq_true', Bool.not_eq_false', decide_eq_true_eq, decide_eq_false_iff_not, Int.not_lt, Int.not_le] at h467
                    omega
      ·
        try simp only [Bool.not_eq_true', Bool.not_eq_false', decide_eq_true_eq, decide_eq_false_iff_not, Int.not_lt, Int.not_le] at h335
        refine w_skipop rfl rfl rfl ?_
        refine w_skipop rfl rfl rfl ?_
        refine w_skipop rfl rfl rfl ?_
        refine w_pure want_none (y_pickF (v := _) rfl rfl rfl rfl) rfl ?_
        refine w_pure want_none (y_move (v := .bool _) rfl rfl) rfl ?_
        refine w_pure (want_yes rfl rfl rfl) (y_move (v := .int _ _) rfl rfl) rfl ?_
        refine w_pure (want_yes rfl rfl rfl) (y_eql rfl rfl rfl rfl) rfl ?_
        refine w_pure (want_yes rfl rfl rfl) (y_move (v := .bool _) rfl rfl) rfl ?_
        refine w_split (fun h472 => ?_) (fun h472 => ?_)
        ·
          try simp only [Bool.not_eq_true', Bool.not_eq_false', decide_eq_true_eq, decide_eq_false_iff_not, Int.not_lt, Int.not_le] at h472
          refine w_pure (want_yes rfl rfl rfl) (y_move (v := .int _ _) rfl rfl) rfl ?_
          refine w_pure (want_yes rfl rfl rfl) (y_neq rfl rfl rfl rfl) rfl ?_
          refine w_pure (want_yes rfl rfl rfl) (y_move (v := .bool _) rfl rfl) rfl ?_
          refine w_split (fun h473 => ?_) (fun h473 => ?_)
          ·
            exfalso
            try simp only [Bool.not_eq_true', Bool.not_eq_false', decide_eq_true_eq, decide_eq_false_iff_not, Int.not_lt, Int.not_le] at h473
            omega
          ·
            try simp only [Bool.not_eq_true', Bool.not_eq_false', decide_eq_true_eq, decide_eq_false_iff_not, Int.not_lt, Int.not_le] at h473
            refine w_pure (want_yes rfl rfl rfl) (y_move (v := .int _ _) rfl rfl) rfl ?_
            refine w_pure (want_yes rfl rfl rfl) (y_move (v := .int _ _) rfl rfl) rfl ?_
            refine w_pure (want_yes rfl rfl rfl) (y_gtr rfl rfl rfl rfl) rfl ?_
            refine w_pure (want_yes rfl rfl rfl) (y_pickF (v := .bool _) rfl rfl rfl rfl) rfl ?_
            refine w_pure (want_yes rfl rfl rfl) (y_pickT (v := .bool _) rfl rfl rfl rfl) rfl ?_
            refine w_pure want_none (y_pickF (v := .bool _) rfl rfl rfl rfl) rfl ?_
            refine w_nil ?_
            refine q_then (hK333 _ _ ?_)
            refine w_cond rfl rfl (fun h474 => ?_) (fun h474 => ?_)
            ·
              exfalso
              try simp only [Bool.not_eq_true', Bool.not_eq_false', decide_eq_true_eq, decide_eq_false_iff_not, Int.not_lt, Int.not_le] at h474
              omega
            ·
              try simp only [Bool.not_eq_true', Bool.not_eq_false', decide_eq_true_eq, decide_eq_false_iff_not, Int.not_lt, Int.not_le] at h474
              refine w_skip ?_
              refine q_then (hK331 _ _ ?_)
              refine w_seq (fun K476 hK475 => ?_)
              refine w_region ?_
              refine w_pure want_none (y_loadN (vs := [_, _, _, _]) Try.isAgg26 Try.sizeOf26 hs46.drop.tail rfl rfl hbx2) rfl ?_
              refine w_call want_none Try.call33 rfl rfl rfl rfl (c33 p _ _ (by omega) (by omega) ha.cons.cons.app hnm 0 hs46) ?_
              rintro _ w478 ⟨rfl, hs479⟩
              refine w_pure want_none (y_move (v := .tuple _) rfl rfl) rfl ?_
              refine w_pure want_none (y_extract (v := .int _ _) rfl rfl rfl) rfl ?_
              refine w_pure want_none (y_extract (v := .int _ _) rfl rfl rfl) rfl ?_
              refine w_pure want_none (y_assign (v := .int _ _) rfl rfl) rfl ?_
              refine w_pure want_none (y_assign (v := .int _ _) rfl rfl) rfl ?_
              refine w_nil ?_
              refine q_then (hK475 _ _ ?_)
              refine w_seq (fun K481 hK480 => ?_)
              have htz := told_zero hck
              refine w_region ?_
              refine w_pure want_none (y_assign (v := _) rfl rfl) rfl ?_
              refine w_pure want_none (y_assign (v := _) rfl rfl) rfl ?_
              refine w_nil ?_
              refine q_then (hK480 _ _ ?_)
              refine w_seq (fun K483 hK482 => ?_)
              refine w_seq (fun K485 hK484 => ?_)
              refine w_region ?_
              refine w_pure want_none (y_fieldAddr (o := 1) (i := 1) Try.underlying26 rfl Try.sizeOf23 rfl rfl rfl) rfl ?_
              refine w_pure want_none (y_fieldAddr (o := 0) (i := 0) Try.underlying23 rfl Try.sizeOf3 rfl rfl rfl) rfl ?_
              refine w_pure want_none (y_load1 Try.isAgg3 hs479.drop.tail rfl rfl (show Ats _ _ _ _ [_] from Ats.part hbx2 1 1)) rfl ?_
              refine w_pure want_none (y_assign (v := .int _ _) rfl rfl) rfl ?_
              refine w_nil ?_
              refine q_then (hK484 _ _ ?_)
              refine w_block ?_
              refine w_loop [4, 18, 19, 20, 21, 22, 23, 24, 110, 111, 112, 113, 114, 115, 116, 117, 118, 119, 120, 121, 122, 123, 124, 125, 126, 127, 128, 129, 130, 131, 132, 133, 134, 135, 136, 137, 138, 139, 140, 141] [18, 19, 20] (fun kk vs w => ∃ (q : Nat) (m : Bool), m = !(fullTUpto p (never_ p.farms.length) 0 q) ∧ vs = [.int .i64 0, .bool m, .int .i64 (p.clo + q)] ∧ (q : Int) ≤ p.chi - p.clo + 1 ∧ kk = (p.chi - p.clo + 1 - q).toNat ∧ St w0 w (B1 ++ ((b6, blk 65 [.int .u8 x0, .int .u8 x1]) :: (b3, blk 26 (p.cells a c)) :: F))) ((p.chi - p.clo + 1).toNat) ?_ ?_
              ·
                exact ⟨0, false, by simp [fullTUpto], vb3 rfl rfl (by omega), by omega, by simp, hs479⟩
              ·
                intro k vs μ w488 hI K487 hN486
                obtain ⟨q, m, hm, rfl, hq, rfl, hs⟩ := hI
                refine w_seq (fun K490 hK489 => ?_)
                refine w_seq (fun K492 hK491 => ?_)
                refine w_region ?_
                refine w_pure want_none (y_move (v := .int _ _) rfl rfl) rfl ?_
                refine w_pure want_none (y_fieldAddr (o := 1) (i := 1) Try.underlying26 rfl Try.sizeOf23 rfl rfl rfl) rfl ?_
                refine w_pure want_none (y_fieldAddr (o := 1) (i := 1) Try.underlying23 rfl Try.sizeOf3 rfl rfl rfl) rfl ?_
                refine w_pure want_none (y_load1 Try.isAgg3 hs.drop.tail rfl rfl (show Ats _ _ _ _ [_] from Ats.part hbx2 2 1)) rfl ?_
                refine w_pure want_none (y_leq rfl rfl rfl rfl) rfl ?_
                refine w_nil ?_
                refine q_then (hK491 _ _ ?_)
                refine w_cond rfl rfl (fun h493 => ?_) (fun h493 => ?_)
                ·
                  try simp only [Bool.not_eq_true', Bool.not_eq_false', decide_eq_true_eq, decide_eq_false_iff_not, Int.not_lt, Int.not_le] at h493
                  refine w_skip ?_
                  refine q_then (hK489 _ _ ?_)
                  refine w_seq (fun K495 hK494 => ?_)
                  refine w_block ?_
                  refine w_seq (fun K497 hK496 => ?_)
                  refine w_region ?_
                  refine w_pure want_none (y_loadN (vs := [_, _, _, _]) Try.isAgg26 Try.sizeOf26 hs.drop.tail rfl rfl hbx2) rfl ?_
                  refine w_alloc (cs := [_, _, _, _]) want_none Try.zeroValue26 rfl hs (fun b498 w499 hs500 => ?_)
                  refine w_store (i := 0) (v := .agg #[.int _ _, .int _ _, .int _ _, .slice _ _ _]) (vs := [_, _, _, _]) want_none Try.sizeOf26 rfl rfl rfl rfl rfl (by simp [Value.oneCell']) hs500 rfl (Nat.le_of_ble_eq_true rfl) (fun w501 hs502 => ?_)
                  refine w_nil ?_
                  refine q_then (hK496 _ _ ?_)
                  refine w_seq (fun K504 hK503 => ?_)
                  have hone : (oneP p (p.clo + q)).farms.length = p.farms.length := rfl
                  have hday1 : p.clo ≤ p.clo + q := by omega
                  have hday2 : p.clo + q ≤ p.chi := by omega
                  obtain ⟨ho1, ho2, ho3⟩ := one_plan hck hday1 hday2
                  refine w_region ?_
                  refine w_pure want_none (y_move (v := .int _ _) rfl rfl) rfl ?_
                  refine w_pure want_none (y_move (v := .int _ _) rfl rfl) rfl ?_
                  refine w_call want_none Try.call36 rfl rfl rfl rfl (c36 _ _ hs502) ?_
                  rintro _ w506 ⟨rfl, hs507⟩
                  refine w_pure want_none (y_fieldAddr (o := 1) (i := 1) Try.underlying26 rfl Try.sizeOf23 rfl rfl rfl) rfl ?_
                  refine w_store (i := 0) (v := .agg #[.int _ _, .int _ _]) (vs := [_, _]) want_none Try.sizeOf23 rfl rfl rfl rfl rfl (by simp [Value.oneCell']) hs507 rfl (Nat.le_of_ble_eq_true rfl) (fun w508 hs509 => ?_)
                  refine w_nil ?_
                  refine q_then (hK503 _ _ ?_)
                  refine w_seq (fun K511 hK510 => ?_)
                  refine w_region ?_
                  refine w_pure want_none (y_loadN (vs := [_, _, _, _]) Try.isAgg26 Try.sizeOf26 hs509 rfl rfl (ats_own (i := 0) (vs := [_, _, _, _]) rfl rfl)) rfl ?_
                  refine w_call want_none Try.call26 rfl rfl rfl rfl (c26 (oneP p (p.clo + q)) _ _ (by omega) (by omega) ha.cons.cons.app.cons hnm hs509) ?_
                  rintro _ w513 ⟨B3, aq_B3, cq_B3, rfl, h_B3, hs514⟩
                  replace hs514 := (show St _ _ (B3 ++ (_ :: B1 ++ (_ :: _ :: F))) from hs514)
                  refine w_pure want_none (y_move (v := .tuple _) rfl rfl) rfl ?_
                  refine w_pure want_none (y_extract (v := .slice _ _ _) rfl rfl rfl) rfl ?_
                  refine w_pure want_none (y_extract (v := .int _ _) rfl rfl rfl) rfl ?_
                  refine w_pure want_none (y_extract (v := .int _ _) rfl rfl rfl) rfl ?_
                  refine w_pure want_none (y_assign (v := .slice _ _ _) rfl rfl) rfl ?_
                  refine w_pure want_none (y_assign (v := .int _ _) rfl rfl) rfl ?_
                  refine w_pure want_none (y_assign (v := .int _ _) rfl rfl) rfl ?_
                  refine w_nil ?_
                  refine q_then (hK510 _ _ ?_)
                  refine w_seq (fun K516 hK515 => ?_)
                  refine w_seq (fun K518 hK517 => ?_)
                  refine w_region ?_
                  refine w_pure want_none (y_move (v := .int _ _) rfl rfl) rfl ?_
                  refine w_pure want_none (y_neq rfl rfl rfl rfl) rfl ?_
                  refine w_pure want_none (y_move (v := .bool _) rfl rfl) rfl ?_
                  refine w_split (fun h519 => ?_) (fun h519 => ?_)
                  ·
                    try simp only [Bool.not_eq_true', Bool.not_eq_false', decide_eq_true_eq, decide_eq_false_iff_not, Int.not_lt, Int.not_le] at h519
                    refine w_pure (want_yes rfl rfl rfl) (y_move (v := .int _ _) rfl rfl) rfl ?_
                    refine w_pure (want_yes rfl rfl rfl) (y_neq rfl rfl rfl rfl) rfl ?_
                    refine w_pure want_none (y_pickT (v := .bool _) rfl rfl rfl rfl) rfl ?_
                    refine w_nil ?_
                    refine q_then (hK517 _ _ ?_)
                    refine w_cond rfl rfl (fun h520 => ?_) (fun h520 => ?_)
                    ·
                      exfalso
                      try simp only [Bool.not_eq_true', Bool.not_eq_false', decide_eq_true_eq, decide_eq_false_iff_not, Int.not_lt, Int.not_le] at h520
                      omega
                    ·
                      try simp only [Bool.not_eq_true', Bool.not_eq_false', decide_eq_true_eq, decide_eq_false_iff_not, Int.not_lt, Int.not_le] at h520
                      refine w_skip ?_
                      refine q_then (hK515 _ _ ?_)
                      refine w_region ?_
                      refine w_pure want_none (y_move (v := .int _ _) rfl rfl) rfl ?_
                      refine w_pure want_none (y_move (v := .int _ _) rfl rfl) rfl ?_
                      refine w_pure want_none (y_max2 rfl rfl rfl rfl) rfl ?_
                      refine w_pure want_none (y_move (v := .bool _) rfl rfl) rfl ?_
                      refine w_pure want_none (y_move (v := .bool _) rfl rfl) rfl ?_
                      refine w_split (fun h521 => ?_) (fun h521 => ?_)
                      ·
                        try simp only [Bool.not_eq_true', Bool.not_eq_false', decide_eq_true_eq, decide_eq_false_iff_not, Int.not_lt, Int.not_le] at h521
                        refine w_skipop rfl rfl rfl ?_
                        refine w_skipop rfl rfl rfl ?_
                        refine w_pure want_none (y_pickT (v := _) rfl rfl rfl rfl) rfl ?_
                        refine w_pure want_none (y_assign (v := .int _ _) rfl rfl) rfl ?_
                        refine w_pure want_none (y_assign (v := .bool _) rfl rfl) rfl ?_
                        refine w_nil ?_
                        refine q_blk_normal ?_
                        refine q_then (hK494 _ _ ?_)
                        refine w_region ?_
                        refine w_pure want_none (y_move (v := .int _ _) rfl rfl) rfl ?_
                        refine w_pure want_none (y_add rfl rfl rfl rfl (by omega) (by omega)) rfl ?_
                        refine w_pure want_none (y_assign (v := .int _ _) rfl rfl) rfl ?_
                        refine w_nil ?_
                        refine q_then (hN486 _ _ (Nx.intro ((p.chi - p.clo + 1 - (q + 1 : Nat)).toNat) (by omega) (by repeat (first | exact agree_mix | refine agree_upd rfl ?_ | refine agree_updL rfl ?_ _ | refine agree_mixin rfl ?_)) ?_))
                        exact ⟨q + 1, _, by rw [fullTUpto_succ (never_ p.farms.length) 0 (by omega), Bool.not_and, ← hm, ← iff_dec ho3]; simp [h16, h51, h335, h472, h473, h474, h493, h519, h520, h521], vb3 (by omega) rfl (by omega), by omega, rfl, hs514.drop.tail⟩
                      ·
                        try simp only [Bool.not_eq_true', Bool.not_eq_false', decide_eq_true_eq, decide_eq_false_iff_not, Int.not_lt, Int.not_le] at h521
                        refine w_pure (want_yes rfl rfl rfl) (y_move (v := .int _ _) rfl rfl) rfl ?_
                        refine w_pure (want_yes rfl rfl rfl) (y_neq rfl rfl rfl rfl) rfl ?_
                        refine w_pure want_none (y_pickF (v := .bool _) rfl rfl rfl rfl) rfl ?_
                        refine w_pure want_none (y_assign (v := .int _ _) rfl rfl) rfl ?_
                        refine w_pure want_none (y_assign (v := .bool _) rfl rfl) rfl ?_
                        refine w_nil ?_
                        refine q_blk_normal ?_
                        refine q_then (hK494 _ _ ?_)
                        refine w_region ?_
                        refine w_pure want_none (y_move (v := .int _ _) rfl rfl) rfl ?_
                        refine w_pure want_none (y_add rfl rfl rfl rfl (by omega) (by omega)) rfl ?_
                        refine w_pure want_none (y_assign (v := .int _ _) rfl rfl) rfl ?_
                        refine w_nil ?_
                        refine q_then (hN486 _ _ (Nx.intro ((p.chi - p.clo + 1 - (q + 1 : Nat)).toNat) (by omega) (by repeat (first | exact agree_mix | refine agree_upd rfl ?_ | refine agree_updL rfl ?_ _ | refine agree_mixin rfl ?_)) ?_))
                        exact ⟨q + 1, _, by rw [fullTUpto_succ (never_ p.farms.length) 0 (by omega), Bool.not_and, ← hm, ← iff_dec ho3]; simp [h16, h51, h335, h472, h473, h474, h493, h519, h520, h521], vb3 (by omega) rfl (by omega), by omega, rfl, hs514.drop.tail⟩
                  ·
                    try simp only [Bool.not_eq_true', Bool.not_eq_false', decide_eq_true_eq, decide_eq_false_iff_not, Int.not_lt, Int.not_le] at h519
                    refine w_skipop rfl rfl rfl ?_
                    refine w_skipop rfl rfl rfl ?_
                    refine w_pure want_none (y_pickF (v := _) rfl rfl rfl rfl) rfl ?_
                    refine w_nil ?_
                    refine q_then (hK517 _ _ ?_)
                    refine w_condF rfl rfl ?_
                    refine w_skip ?_
                    refine q_then (hK515 _ _ ?_)
                    refine w_region ?_
                    refine w_pure want_none (y_move (v := .int _ _) rfl rfl) rfl ?_
                    refine w_pure want_none (y_move (v := .int _ _) rfl rfl) rfl ?_
                    refine w_pure want_none (y_max2 rfl rfl rfl rfl) rfl ?_
                    refine w_pure want_none (y_move (v := .bool _) rfl rfl) rfl ?_
                    refine w_pure want_none (y_move (v := .bool _) rfl rfl) rfl ?_
                    refine w_split (fun h522 => ?_) (fun h522 => ?_)
                    ·
                      try simp only [Bool.not_eq_true', Bool.not_eq_false', decide_eq_true_eq, decide_eq_false_iff_not, Int.not_lt, Int.not_le] at h522
                      refine w_skipop rfl rfl rfl ?_
                      refine w_skipop rfl rfl rfl ?_
                      refine w_pure want_none (y_pickT (v := _) rfl rfl rfl rfl) rfl ?_
                      refine w_pure want_none (y_assign (v := .int _ _) rfl rfl) rfl ?_
                      refine w_pure want_none (y_assign (v := .bool _) rfl rfl) rfl ?_
                      refine w_nil ?_
                      refine q_blk_normal ?_
                      refine q_then (hK494 _ _ ?_)
                      refine w_region ?_
                      refine w_pure want_none (y_move (v := .int _ _) rfl rfl) rfl ?_
                      refine w_pure want_none (y_add rfl rfl rfl rfl (by omega) (by omega)) rfl ?_
                      refine w_pure want_none (y_assign (v := .int _ _) rfl rfl) rfl ?_
                      refine w_nil ?_
                      refine q_then (hN486 _ _ (Nx.intro ((p.chi - p.clo + 1 - (q + 1 : Nat)).toNat) (by omega) (by repeat (first | exact agree_mix | refine agree_upd rfl ?_ | refine agree_updL rfl ?_ _ | refine agree_mixin rfl ?_)) ?_))
                      exact ⟨q + 1, _, by rw [fullTUpto_succ (never_ p.farms.length) 0 (by omega), Bool.not_and, ← hm, ← iff_dec ho3]; simp [h16, h51, h335, h472, h473, h474, h493, h519, h522], vb3 (by omega) rfl (by omega), by omega, rfl, hs514.drop.tail⟩
                    ·
                      try simp only [Bool.not_eq_true', Bool.not_eq_false', decide_eq_true_eq, decide_eq_false_iff_not, Int.not_lt, Int.not_le] at h522
                      refine w_pure (want_yes rfl rfl rfl) (y_move (v := .int _ _) rfl rfl) rfl ?_
                      refine w_pure (want_yes rfl rfl rfl) (y_neq rfl rfl rfl rfl) rfl ?_
                      refine w_pure want_none (y_pickF (v := .bool _) rfl rfl rfl rfl) rfl ?_
                      refine w_pure want_none (y_assign (v := .int _ _) rfl rfl) rfl ?_
                      refine w_pure want_none (y_assign (v := .bool _) rfl rfl) rfl ?_
                      refine w_nil ?_
                      refine q_blk_normal ?_
                      refine q_then (hK494 _ _ ?_)
                      refine w_region ?_
                      refine w_pure want_none (y_move (v := .int _ _) rfl rfl) rfl ?_
                      refine w_pure want_none (y_add rfl rfl rfl rfl (by omega) (by omega)) rfl ?_
                      refine w_pure want_none (y_assign (v := .int _ _) rfl rfl) rfl ?_
                      refine w_nil ?_
                      refine q_then (hN486 _ _ (Nx.intro ((p.chi - p.clo + 1 - (q + 1 : Nat)).toNat) (by omega) (by repeat (first | exact agree_mix | refine agree_upd rfl ?_ | refine agree_updL rfl ?_ _ | refine agree_mixin rfl ?_)) ?_))
                      exact ⟨q + 1, _, by rw [fullTUpto_succ (never_ p.farms.length) 0 (by omega), Bool.not_and, ← hm, ← iff_dec ho3]; simp [h16, h51, h335, h472, h473, h474, h493, h519, h522], vb3 (by omega) rfl (by omega), by omega, rfl, hs514.drop.tail⟩
                ·
                  try simp only [Bool.not_eq_true', Bool.not_eq_false', decide_eq_true_eq, decide_eq_false_iff_not, Int.not_lt, Int.not_le] at h493
                  refine w_exit ?_
                  refine q_then_exit ?_
                  refine q_then_exit ?_
                  refine q_blk_this ?_
                  refine q_then (hK482 _ _ ?_)
                  refine w_seq (fun K524 hK523 => ?_)
                  refine w_seq (fun K526 hK525 => ?_)
                  rw [fullTUpto_all (never_ p.farms.length) 0 (by omega)] at hm
                  refine w_region ?_
                  refine w_pure want_none (y_move (v := .bool _) rfl rfl) rfl ?_
                  refine w_nil ?_
                  refine q_then (hK525 _ _ ?_)
                  refine w_cond rfl rfl (fun h527 => ?_) (fun h527 => ?_)
                  ·
                    try simp only [Bool.not_eq_true', Bool.not_eq_false', decide_eq_true_eq, decide_eq_false_iff_not, Int.not_lt, Int.not_le] at h527
                    refine w_seq (fun K529 hK528 => ?_)
                    have htz2 := htz.2 (by simpa [h16, h51, h335, h472, h473, h474, h493, h527] using hm.symm)
                    refine w_region ?_
                    refine w_pure want_none (y_move (v := .int _ _) rfl rfl) rfl ?_
                    refine w_pure want_none (y_eql rfl rfl rfl rfl) rfl ?_
                    refine w_pure want_none (y_move (v := .bool _) rfl rfl) rfl ?_
                    refine w_split (fun h530 => ?_) (fun h530 => ?_)
                    ·
                      try simp only [Bool.not_eq_true', Bool.not_eq_false', decide_eq_true_eq, decide_eq_false_iff_not, Int.not_lt, Int.not_le] at h530
                      refine w_call (want_yes rfl rfl rfl) Try.call23 rfl rfl rfl rfl (c23 hs) ?_
                      rintro _ w532 ⟨rfl, hs533⟩
                      refine w_pure want_none (y_pickT (v := .bool _) rfl rfl rfl rfl) rfl ?_
                      refine w_pure want_none (y_assign (v := .bool _) rfl rfl) rfl ?_
                      refine w_nil ?_
                      refine q_then (hK528 _ _ ?_)
                      refine w_ret ?_
                      refine q_then_ret ?_
                      refine q_ret (l := [.tmp 4]) (vs := [_]) rfl ⟨⟨rfl, show _ = (.bool _ : Value) from rfl⟩, trivial⟩ ?_
                      exact ⟨rfl, hs533.drop.tail.tail⟩
                    ·
                      exfalso
                      try simp only [Bool.not_eq_true', Bool.not_eq_false', decide_eq_true_eq, decide_eq_false_iff_not, Int.not_lt, Int.not_le] at h530
                      omega
                  ·
                    try simp only [Bool.not_eq_true', Bool.not_eq_false', decide_eq_true_eq, decide_eq_false_iff_not, Int.not_lt, Int.not_le] at h527
                    refine w_skip ?_
                    refine q_then (hK523 _ _ ?_)
                    refine w_seq (fun K535 hK534 => ?_)
                    have htz1 := htz.1 (by simpa [h16, h51, h335, h472, h473, h474, h493, h527] using hm.symm)
                    refine w_region ?_
                    refine w_pure want_none (y_move (v := .int _ _) rfl rfl) rfl ?_
                    refine w_pure want_none (y_eql rfl rfl rfl rfl) rfl ?_
                    refine w_pure want_none (y_move (v := .bool _) rfl rfl) rfl ?_
                    refine w_split (fun h536 => ?_) (fun h536 => ?_)
                    ·
                      try simp only [Bool.not_eq_true', Bool.not_eq_false', decide_eq_true_eq, decide_eq_false_iff_not, Int.not_lt, Int.not_le] at h536
                      refine w_pure (want_yes rfl rfl rfl) (y_move (v := .int _ _) rfl rfl) rfl ?_
                      refine w_pure (want_yes rfl rfl rfl) (y_move (v := .int _ _) rfl rfl) rfl ?_
                      refine w_pure (want_yes rfl rfl rfl) (y_eql rfl rfl rfl rfl) rfl ?_
                      refine w_pure want_none (y_pickT (v := .bool _) rfl rfl rfl rfl) rfl ?_
                      refine w_pure want_none (y_move (v := .bool _) rfl rfl) rfl ?_
                      refine w_split (fun h537 => ?_) (fun h537 => ?_)
                      ·
                        try simp only [Bool.not_eq_true', Bool.not_eq_false', decide_eq_true_eq, decide_eq_false_iff_not, Int.not_lt, Int.not_le] at h537
                        refine w_call (want_yes rfl rfl rfl) Try.call23 rfl rfl rfl rfl (c23 hs) ?_
                        rintro _ w539 ⟨rfl, hs540⟩
                        refine w_pure want_none (y_pickT (v := .bool _) rfl rfl rfl rfl) rfl ?_
                        refine w_pure want_none (y_assign (v := .bool _) rfl rfl) rfl ?_
                        refine w_nil ?_
                        refine q_then (hK534 _ _ ?_)
                        refine w_ret ?_
                        refine q_ret (l := [.tmp 4]) (vs := [_]) rfl ⟨⟨rfl, show _ = (.bool _ : Value) from rfl⟩, trivial⟩ ?_
                        exact ⟨rfl, hs540.drop.tail.tail⟩
                      ·
                        exfalso
                        try simp only [Bool.not_eq_true', Bool.not_eq_false', decide_eq_true_eq, decide_eq_false_iff_not, Int.not_lt, Int.not_le] at h537
                        omega
                    ·
                      exfalso
                      try simp only [Bool.not_eq_true', Bool.not_eq_false', decide_eq_true_eq, decide_eq_false_iff_not, Int.not_lt, Int.not_le] at h536
                      omega
        ·
          try simp only [Bool.not_eq_true', Bool.not_eq_false', decide_eq_true_eq, decide_eq_false_iff_not, Int.not_lt, Int.not_le] at h472
          refine w_skipop rfl rfl rfl ?_
          refine w_skipop rfl rfl rfl ?_
          refine w_skipop rfl rfl rfl ?_
          refine w_skipop' rfl rfl rfl ?_
          refine w_skipop' rfl rfl rfl ?_
          refine w_skipop' rfl rfl rfl ?_
          refine w_skipop rfl rfl rfl ?_
          refine w_pure (want_yes rfl rfl rfl) (y_pickF (v := _) rfl rfl rfl rfl) rfl ?_
          refine w_pure want_none (y_pickF (v := .bool _) rfl rfl rfl rfl) rfl ?_
          refine w_nil ?_
          refine q_then (hK333 _ _ ?_)
          refine w_condF rfl rfl ?_
          refine w_skip ?_
          refine q_then (hK331 _ _ ?_)
          refine w_seq (fun K542 hK541 => ?_)
          refine w_region ?_
          refine w_pure want_none (y_loadN (vs := [_, _, _, _]) Try.isAgg26 Try.sizeOf26 hs46.drop.tail rfl rfl hbx2) rfl ?_
          refine w_call want_none Try.call33 rfl rfl rfl rfl (c33 p _ _ (by omega) (by omega) ha.cons.cons.app hnm 0 hs46) ?_
          rintro _ w544 ⟨rfl, hs545⟩
          refine w_pure want_none (y_move (v := .tuple _) rfl rfl) rfl ?_
          refine w_pure want_none (y_extract (v := .int _ _) rfl rfl rfl) rfl ?_
          refine w_pure want_none (y_extract (v := .int _ _) rfl rfl rfl) rfl ?_
          refine w_pure want_none (y_assign (v := .int _ _) rfl rfl) rfl ?_
          refine w_pure want_none (y_assign (v := .int _ _) rfl rfl) rfl ?_
          refine w_nil ?_
          refine q_then (hK541 _ _ ?_)
          refine w_seq (fun K547 hK546 => ?_)
          have htz := told_zero hck
          refine w_region ?_
          refine w_pure want_none (y_assign (v := _) rfl rfl) rfl ?_
          refine w_pure want_none (y_assign (v := _) rfl rfl) rfl ?_
          refine w_nil ?_
          refine q_then (hK546 _ _ ?_)
          refine w_seq (fun K549 hK548 => ?_)
          refine w_seq (fun K551 hK550 => ?_)
          refine w_region ?_
          refine w_pure want_none (y_fieldAddr (o := 1) (i := 1) Try.underlying26 rfl Try.sizeOf23 rfl rfl rfl) rfl ?_
          refine w_pure want_none (y_fieldAddr (o := 0) (i := 0) Try.underlying23 rfl Try.sizeOf3 rfl rfl rfl) rfl ?_
          refine w_pure want_none (y_load1 Try.isAgg3 hs545.drop.tail rfl rfl (show Ats _ _ _ _ [_] from Ats.part hbx2 1 1)) rfl ?_
          refine w_pure want_none (y_assign (v := .int _ _) rfl rfl) rfl ?_
          refine w_nil ?_
          refine q_then (hK550 _ _ ?_)
          refine w_block ?_
          refine w_loop [4, 18, 19, 20, 21, 22, 23, 24, 110, 111, 112, 113, 114, 115, 116, 117, 118, 119, 120, 121, 122, 123, 124, 125, 126, 127, 128, 129, 130, 131, 132, 133, 134, 135, 136, 137, 138, 139, 140, 141] [18, 19, 20] (fun kk vs w => ∃ (q : Nat) (m : Bool), m = !(fullTUpto p (never_ p.farms.length) 0 q) ∧ vs = [.int .i64 0, .bool m, .int .i64 (p.clo + q)] ∧ (q : Int) ≤ p.chi - p.clo + 1 ∧ kk = (p.chi - p.clo + 1 - q).toNat ∧ St w0 w (B1 ++ ((b6, blk 65 [.int .u8 x0, .int .u8 x1]) :: (b3, blk 26 (p.cells a c)) :: F))) ((p.chi - p.clo + 1).toNat) ?_ ?_
          ·
            exact ⟨0, false, by simp [fullTUpto], vb3 rfl rfl (by omega), by omega, by simp, hs545⟩
          ·
            intro k vs μ w554 hI K553 hN552
            obtain ⟨q, m, hm, rfl, hq, rfl, hs⟩ := hI
            refine w_seq (fun K556 hK555 => ?_)
            refine w_seq (fun K558 hK557 => ?_)
            refine w_region ?_
            refine w_pure want_none (y_move (v := .int _ _) rfl rfl) rfl ?_
            refine w_pure want_none (y_fieldAddr (o := 1) (i := 1) Try.underlying26 rfl Try.sizeOf23 rfl rfl rfl) rfl ?_
            refine w_pure want_none (y_fieldAddr (o := 1) (i := 1) Try.underlying23 rfl Try.sizeOf3 rfl rfl rfl) rfl ?_
            refine w_pure want_none (y_load1 Try.isAgg3 hs.drop.tail rfl rfl (show Ats _ _ _ _ [_] from Ats.part hbx2 2 1)) rfl ?_
            refine w_pure want_none (y_leq rfl rfl rfl rfl) rfl ?_
            refine w_nil ?_
            refine q_then (hK557 _ _ ?_)
            refine w_cond rfl rfl (fun h559 => ?_) (fun h559 => ?_)
            ·
              try simp only [Bool.not_eq_true', Bool.not_eq_false', decide_eq_true_eq, decide_eq_false_iff_not, Int.not_lt, Int.not_le] at h559
              refine w_skip ?_
              refine q_then (hK555 _ _ ?_)
              refine w_seq (fun K561 hK560 => ?_)
              refine w_block ?_
              refine w_seq (fun K563 hK562 => ?_)
              refine w_region ?_
              refine w_pure want_none (y_loadN (vs := [_, _, _, _]) Try.isAgg26 Try.sizeOf26 hs.drop.tail rfl rfl hbx2) rfl ?_
              refine w_alloc (cs := [_, _, _, _]) want_none Try.zeroValue26 rfl hs (fun b564 w565 hs566 => ?_)
              refine w_store (i := 0) (v := .agg #[.int _ _, .int _ _, .int _ _, .slice _ _ _]) (vs := [_, _, _, _]) want_none Try.sizeOf26 rfl rfl rfl rfl rfl (by simp [Value.oneCell']) hs566 rfl (Nat.le_of_ble_eq_true rfl) (fun w567 hs568 => ?_)
              refine w_nil ?_
              refine q_then (hK562 _ _ ?_)
              refine w_seq (fun K570 hK569 => ?_)
              have hone : (oneP p (p.clo + q)).farms.length = p.farms.length := rfl
              have hday1 : p.clo ≤ p.clo + q := by omega
              have hday2 : p.clo + q ≤ p.chi := by omega
              obtain ⟨ho1, ho2, ho3⟩ := one_plan hck hday1 hday2
              refine w_region ?_
              refine w_pure want_none (y_move (v := .int _ _) rfl rfl) rfl ?_
              refine w_pure want_none (y_move (v := .int _ _) rfl rfl) rfl ?_
              refine w_call want_none Try.call36 rfl rfl rfl rfl (c36 _ _ hs568) ?_
              rintro _ w572 ⟨rfl, hs573⟩
              refine w_pure want_none (y_fieldAddr (o := 1) (i := 1) Try.underlying26 rfl Try.sizeOf23 rfl rfl rfl) rfl ?_
              refine w_store (i := 0) (v := .agg #[.int _ _, .int _ _]) (vs := [_, _]) want_none Try.sizeOf23 rfl rfl rfl rfl rfl (by simp [Value.oneCell']) hs573 rfl (Nat.le_of_ble_eq_true rfl) (fun w574 hs575 => ?_)
              refine w_nil ?_
              refine q_then (hK569 _ _ ?_)
              refine w_seq (fun K577 hK576 => ?_)
              refine w_region ?_
              refine w_pure want_none (y_loadN (vs := [_, _, _, _]) Try.isAgg26 Try.sizeOf26 hs575 rfl rfl (ats_own (i := 0) (vs := [_, _, _, _]) rfl rfl)) rfl ?_
              refine w_call want_none Try.call26 rfl rfl rfl rfl (c26 (oneP p (p.clo + q)) _ _ (by omega) (by omega) ha.cons.cons.app.cons hnm hs575) ?_
              rintro _ w579 ⟨B3, aq_B3, cq_B3, rfl, h_B3, hs580⟩
              replace hs580 := (show St _ _ (B3 ++ (_ :: B1 ++ (_ :: _ :: F))) from hs580)
              refine w_pure want_none (y_move (v := .tuple _) rfl rfl) rfl ?_
              refine w_pure want_none (y_extract (v := .slice _ _ _) rfl rfl rfl) rfl ?_
              refine w_pure want_none (y_extract (v := .int _ _) rfl rfl rfl) rfl ?_
              refine w_pure want_none (y_extract (v := .int _ _) rfl rfl rfl) rfl ?_
              refine w_pure want_none (y_assign (v := .slice _ _ _) rfl rfl) rfl ?_
              refine w_pure want_none (y_assign (v := .int _ _) rfl rfl) rfl ?_
              refine w_pure want_none (y_assign (v := .int _ _) rfl rfl) rfl ?_
              refine w_nil ?_
              refine q_then (hK576 _ _ ?_)
              refine w_seq (fun K582 hK581 => ?_)
              refine w_seq (fun K584 hK583 => ?_)
              refine w_region ?_
              refine w_pure want_none (y_move (v := .int _ _) rfl rfl) rfl ?_
              refine w_pure want_none (y_neq rfl rfl rfl rfl) rfl ?_
              refine w_pure want_none (y_move (v := .bool _) rfl rfl) rfl ?_
              refine w_split (fun h585 => ?_) (fun h585 => ?_)
              ·
                try simp only [Bool.not_eq_true', Bool.not_eq_false', decide_eq_true_eq, decide_eq_false_iff_not, Int.not_lt, Int.not_le] at h585
                refine w_pure (want_yes rfl rfl rfl) (y_move (v := .int _ _) rfl rfl) rfl ?_
                refine w_pure (want_yes rfl rfl rfl) (y_neq rfl rfl rfl rfl) rfl ?_
                refine w_pure want_none (y_pickT (v := .bool _) rfl rfl rfl rfl) rfl ?_
                refine w_nil ?_
                refine q_then (hK583 _ _ ?_)
                refine w_cond rfl rfl (fun h586 => ?_) (fun h586 => ?_)
                ·
                  exfalso
                  try simp only [Bool.not_eq_true', Bool.not_eq_false', decide_eq_true_eq, decide_eq_false_iff_not, Int.not_lt, Int.not_le] at h586
                  omega
                ·
                  try simp only [Bool.not_eq_true', Bool.not_eq_false', decide_eq_true_eq, decide_eq_false_iff_not, Int.not_lt, Int.not_le] at h586
                  refine w_skip ?_
                  refine q_then (hK581 _ _ ?_)
                  refine w_region ?_
                  refine w_pure want_none (y_move (v := .int _ _) rfl rfl) rfl ?_
                  refine w_pure want_none (y_move (v := .int _ _) rfl rfl) rfl ?_
                  refine w_pure want_none (y_max2 rfl rfl rfl rfl) rfl ?_
                  refine w_pure want_none (y_move (v := .bool _) rfl rfl) rfl ?_
                  refine w_pure want_none (y_move (v := .bool _) rfl rfl) rfl ?_
                  refine w_split (fun h587 => ?_) (fun h587 => ?_)
                  ·
                    try simp only [Bool.not_eq_true', Bool.not_eq_false', decide_eq_true_eq, decide_eq_false_iff_not, Int.not_lt, Int.not_le] at h587
                    refine w_skipop rfl rfl rfl ?_
                    refine w_skipop rfl rfl rfl ?_
                    refine w_pure want_none (y_pickT (v := _) rfl rfl rfl rfl) rfl ?_
                    refine w_pure want_none (y_assign (v := .int _ _) rfl rfl) rfl ?_
                    refine w_pure want_none (y_assign (v := .bool _) rfl rfl) rfl ?_
                    refine w_nil ?_
                    refine q_blk_normal ?_
                    refine q_then (hK560 _ _ ?_)
                    refine w_region ?_
                    refine w_pure want_none (y_move (v := .int _ _) rfl rfl) rfl ?_
                    refine w_pure want_none (y_add rfl rfl rfl rfl (by omega) (by omega)) rfl ?_
                    refine w_pure want_none (y_assign (v := .int _ _) rfl rfl) rfl ?_
                    refine w_nil ?_
                    refine q_then (hN552 _ _ (Nx.intro ((p.chi - p.clo + 1 - (q + 1 : Nat)).toNat) (by omega) (by repeat (first | exact agree_mix | refine agree_upd rfl ?_ | refine agree_updL rfl ?_ _ | refine agree_mixin rfl ?_)) ?_))
                    exact ⟨q + 1, _, by rw [fullTUpto_succ (never_ p.farms.length) 0 (by omega), Bool.not_and, ← hm, ← iff_dec ho3]; simp [h16, h51, h335, h472, h559, h585, h586, h587], vb3 (by omega) rfl (by omega), by omega, rfl, hs580.drop.tail⟩
                  ·
                    try simp only [Bool.not_eq_true', Bool.not_eq_false', decide_eq_true_eq, decide_eq_false_iff_not, Int.not_lt, Int.not_le] at h587
                    refine w_pure (want_yes rfl rfl rfl) (y_move (v := .int _ _) rfl rfl) rfl ?_
                    refine w_pure (want_yes rfl rfl rfl) (y_neq rfl rfl rfl rfl) rfl ?_
                    refine w_pure want_none (y_pickF (v := .bool _) rfl rfl rfl rfl) rfl ?_
                    refine w_pure want_none (y_assign (v := .int _ _) rfl rfl) rfl ?_
                    refine w_pure want_none (y_assign (v := .bool _) rfl rfl) rfl ?_
                    refine w_nil ?_
                    refine q_blk_normal ?_
                    refine q_then (hK560 _ _ ?_)
                    refine w_region ?_
                    refine w_pure want_none (y_move (v := .int _ _) rfl rfl) rfl ?_
                    refine w_pure want_none (y_add rfl rfl rfl rfl (by omega) (by omega)) rfl ?_
                    refine w_pure want_none (y_assign (v := .int _ _) rfl rfl) rfl ?_
                    refine w_nil ?_
                    refine q_then (hN552 _ _ (Nx.intro ((p.chi - p.clo + 1 - (q + 1 : Nat)).toNat) (by omega) (by repeat (first | exact agree_mix | refine agree_upd rfl ?_ | refine agree_updL rfl ?_ _ | refine agree_mixin rfl ?_)) ?_))
                    exact ⟨q + 1, _, by rw [fullTUpto_succ (never_ p.farms.length) 0 (by omega), Bool.not_and, ← hm, ← iff_dec ho3]; simp [h16, h51, h335, h472, h559, h585, h586, h587], vb3 (by omega) rfl (by omega), by omega, rfl, hs580.drop.tail⟩
              ·
                try simp only [Bool.not_eq_true', Bool.not_eq_false', decide_eq_true_eq, decide_eq_false_iff_not, Int.not_lt, Int.not_le] at h585
                refine w_skipop rfl rfl rfl ?_
                refine w_skipop rfl rfl rfl ?_
                refine w_pure want_none (y_pickF (v := _) rfl rfl rfl rfl) rfl ?_
                refine w_nil ?_
                refine q_then (hK583 _ _ ?_)
                refine w_condF rfl rfl ?_
                refine w_skip ?_
                refine q_then (hK581 _ _ ?_)
                refine w_region ?_
                refine w_pure want_none (y_move (v := .int _ _) rfl rfl) rfl ?_
                refine w_pure want_none (y_move (v := .int _ _) rfl rfl) rfl ?_
                refine w_pure want_none (y_max2 rfl rfl rfl rfl) rfl ?_
                refine w_pure want_none (y_move (v := .bool _) rfl rfl) rfl ?_
                refine w_pure want_none (y_move (v := .bool _) rfl rfl) rfl ?_
                refine w_split (fun h588 => ?_) (fun h588 => ?_)
                ·
                  try simp only [Bool.not_eq_true', Bool.not_eq_false', decide_eq_true_eq, decide_eq_false_iff_not, Int.not_lt, Int.not_le] at h588
                  refine w_skipop rfl rfl rfl ?_
                  refine w_skipop rfl rfl rfl ?_
                  refine w_pure want_none (y_pickT (v := _) rfl rfl rfl rfl) rfl ?_
                  refine w_pure want_none (y_assign (v := .int _ _) rfl rfl) rfl ?_
                  refine w_pure want_none (y_assign (v := .bool _) rfl rfl) rfl ?_
                  refine w_nil ?_
                  refine q_blk_normal ?_
                  refine q_then (hK560 _ _ ?_)
                  refine w_region ?_
                  refine w_pure want_none (y_move (v := .int _ _) rfl rfl) rfl ?_
                  refine w_pure want_none (y_add rfl rfl rfl rfl (by omega) (by omega)) rfl ?_
                  refine w_pure want_none (y_assign (v := .int _ _) rfl rfl) rfl ?_
                  refine w_nil ?_
                  refine q_then (hN552 _ _ (Nx.intro ((p.chi - p.clo + 1 - (q + 1 : Nat)).toNat) (by omega) (by repeat (first | exact agree_mix | refine agree_upd rfl ?_ | refine agree_updL rfl ?_ _ | refine agree_mixin rfl ?_)) ?_))
                  exact ⟨q + 1, _, by rw [fullTUpto_succ (never_ p.farms.length) 0 (by omega), Bool.not_and, ← hm, ← iff_dec ho3]; simp [h16, h51, h335, h472, h559, h585, h588], vb3 (by omega) rfl (by omega), by omega, rfl, hs580.drop.tail⟩
                ·
                  try simp only [Bool.not_eq_true', Bool.not_eq_false', decide_eq_true_eq, decide_eq_false_iff_not, Int.not_lt, Int.not_le] at h588
                  refine w_pure (want_yes rfl rfl rfl) (y_move (v := .int _ _) rfl rfl) rfl ?_
                  refine w_pure (want_yes rfl rfl rfl) (y_neq rfl rfl rfl rfl) rfl ?_
                  refine w_pure want_none (y_pickF (v := .bool _) rfl rfl rfl rfl) rfl ?_
                  refine w_pure want_none (y_assign (v := .int _ _) rfl rfl) rfl ?_
                  refine w_pure want_none (y_assign (v := .bool _) rfl rfl) rfl ?_
                  refine w_nil ?_
                  refine q_blk_normal ?_
                  refine q_then (hK560 _ _ ?_)
                  refine w_region ?_
                  refine w_pure want_none (y_move (v := .int _ _) rfl rfl) rfl ?_
                  refine w_pure want_none (y_add rfl rfl rfl rfl (by omega) (by omega)) rfl ?_
                  refine w_pure want_none (y_assign (v := .int _ _) rfl rfl) rfl ?_
                  refine w_nil ?_
                  refine q_then (hN552 _ _ (Nx.intro ((p.chi - p.clo + 1 - (q + 1 : Nat)).toNat) (by omega) (by repeat (first | exact agree_mix | refine agree_upd rfl ?_ | refine agree_updL rfl ?_ _ | refine agree_mixin rfl ?_)) ?_))
                  exact ⟨q + 1, _, by rw [fullTUpto_succ (never_ p.farms.length) 0 (by omega), Bool.not_and, ← hm, ← iff_dec ho3]; simp [h16, h51, h335, h472, h559, h585, h588], vb3 (by omega) rfl (by omega), by omega, rfl, hs580.drop.tail⟩
            ·
              try simp only [Bool.not_eq_true', Bool.not_eq_false', decide_eq_true_eq, decide_eq_false_iff_not, Int.not_lt, Int.not_le] at h559
              refine w_exit ?_
              refine q_then_exit ?_
              refine q_then_exit ?_
              refine q_blk_this ?_
              refine q_then (hK548 _ _ ?_)
              refine w_seq (fun K590 hK589 => ?_)
              refine w_seq (fun K592 hK591 => ?_)
              rw [fullTUpto_all (never_ p.farms.length) 0 (by omega)] at hm
              refine w_region ?_
              refine w_pure want_none (y_move (v := .bool _) rfl rfl) rfl ?_
              refine w_nil ?_
              refine q_then (hK591 _ _ ?_)
              refine w_cond rfl rfl (fun h593 => ?_) (fun h593 => ?_)
              ·
                try simp only [Bool.not_eq_true', Bool.not_eq_false', decide_eq_true_eq, decide_eq_false_iff_not, Int.not_lt, Int.not_le] at h593
                refine w_seq (fun K595 hK594 => ?_)
                have htz2 := htz.2 (by simpa [h16, h51, h335, h472, h559, h593] using hm.symm)
                refine w_region ?_
                refine w_pure want_none (y_move (v := .int _ _) rfl rfl) rfl ?_
                refine w_pure want_none (y_eql rfl rfl rfl rfl) rfl ?_
                refine w_pure want_none (y_move (v := .bool _) rfl rfl) rfl ?_
                refine w_split (fun h596 => ?_) (fun h596 => ?_)
                ·
                  try simp only [Bool.not_eq_true', Bool.not_eq_false', decide_eq_true_eq, decide_eq_false_iff_not, Int.not_lt, Int.not_le] at h596
                  refine w_call (want_yes rfl rfl rfl) Try.call23 rfl rfl rfl rfl (c23 hs) ?_
                  rintro _ w598 ⟨rfl, hs599⟩
                  refine w_pure want_none (y_pickT (v := .bool _) rfl rfl rfl rfl) rfl ?_
                  refine w_pure want_none (y_assign (v := .bool _) rfl rfl) rfl ?_
                  refine w_nil ?_
                  refine q_then (hK594 _ _ ?_)
                  refine w_ret ?_
                  refine q_then_ret ?_
                  refine q_ret (l := [.tmp 4]) (vs := [_]) rfl ⟨⟨rfl, show _ = (.bool _ : Value) from rfl⟩, trivial⟩ ?_
                  exact ⟨rfl, hs599.drop.tail.tail⟩
                ·
                  exfalso
                  try simp only [Bool.not_eq_true', Bool.not_eq_false', decide_eq_true_eq, decide_eq_false_iff_not, Int.not_lt, Int.not_le] at h596
                  omega
              ·
                try simp only [Bool.not_eq_true', Bool.not_eq_false', decide_eq_true_eq, decide_eq_false_iff_not, Int.not_lt, Int.not_le] at h593
                refine w_skip ?_
                refine q_then (hK589 _ _ ?_)
                refine w_seq (fun K601 hK600 => ?_)
                have htz1 := htz.1 (by simpa [h16, h51, h335, h472, h559, h593] using hm.symm)
                refine w_region ?_
                refine w_pure want_none (y_move (v := .int _ _) rfl rfl) rfl ?_
                refine w_pure want_none (y_eql rfl rfl rfl rfl) rfl ?_
                refine w_pure want_none (y_move (v := .bool _) rfl rfl) rfl ?_
                refine w_split (fun h602 => ?_) (fun h602 => ?_)
                ·
                  try simp only [Bool.not_eq_true', Bool.not_eq_false', decide_eq_true_eq, decide_eq_false_iff_not, Int.not_lt, Int.not_le] at h602
                  refine w_pure (want_yes rfl rfl rfl) (y_move (v := .int _ _) rfl rfl) rfl ?_
                  refine w_pure (want_yes rfl rfl rfl) (y_move (v := .int _ _) rfl rfl) rfl ?_
                  refine w_pure (want_yes rfl rfl rfl) (y_eql rfl rfl rfl rfl) rfl ?_
                  refine w_pure want_none (y_pickT (v := .bool _) rfl rfl rfl rfl) rfl ?_
                  refine w_pure want_none (y_move (v := .bool _) rfl rfl) rfl ?_
                  refine w_split (fun h603 => ?_) (fun h603 => ?_)
                  ·
                    try simp only [Bool.not_eq_true', Bool.not_eq_false', decide_eq_true_eq, decide_eq_false_iff_not, Int.not_lt, Int.not_le] at h603
                    refine w_call (want_yes rfl rfl rfl) Try.call23 rfl rfl rfl rfl (c23 hs) ?_
                    rintro _ w605 ⟨rfl, hs606⟩
                    refine w_pure want_none (y_pickT (v := .bool _) rfl rfl rfl rfl) rfl ?_
                    refine w_pure want_none (y_assign (v := .bool _) rfl rfl) rfl ?_
                    refine w_nil ?_
                    refine q_then (hK600 _ _ ?_)
                    refine w_ret ?_
                    refine q_ret (l := [.tmp 4]) (vs := [_]) rfl ⟨⟨rfl, show _ = (.bool _ : Value) from rfl⟩, trivial⟩ ?_
                    exact ⟨rfl, hs606.drop.tail.tail⟩
                  ·
                    exfalso
                    try simp only [Bool.not_eq_true', Bool.not_eq_false', decide_eq_true_eq, decide_eq_false_iff_not, Int.not_lt, Int.not_le] at h603
                    omega
                ·
                  exfalso
                  try simp only [Bool.not_eq_true', Bool.not_eq_false', decide_eq_true_eq, decide_eq_false_iff_not, Int.not_lt, Int.not_le] at h602
                  omega

end Go.Proofs
