/- Walks of this seat, printed by gen.py over the engine: what each function returns, in whatever world. No conditions but those of each contract. -/
import Derived.Test.YtofoabifbkhkfaaZc
import Derived.Test.YtofoabifbkhkfaaCSpec15
set_option linter.unusedVariables false
set_option linter.unusedSimpArgs false
set_option maxRecDepth 20000
namespace Go.Proofs
open Go.Rt
attribute [local irreducible] WL WC Con Yd At Ats Sl Agree DW

theorem held_zero {p : Port} (h : (check p).2.2 = 0) (h0 : p.farms.length = 0) : heldE p 0 = 4 := by
  unfold heldE
  rw [if_pos h, if_neg]
  simp [out, h0]
theorem any_snoc {α : Type} {f : α → Bool} {l : List α} {i : Nat} (hi : i < l.length) : (l.take (i + 1)).any f = ((l.take i).any f || f l[i]) := by
  rw [List.take_succ_eq_append_getElem hi, List.any_append]; simp
theorem c11 {w0 w : World} {F : List (Nat × Obj)} (p : Port) (a : Option Addr) (c : Nat) (hl3 : p.farms.length ≤ 9223372036854775807) (hc : p.farms.length ≤ c) (ha : Sl w0 F a 6 (rows p.farms)) (hnm : ∀ f ∈ p.farms, f.name.size ≤ 9223372036854775807) (d : Int) (hd : 0 ≤ d ∧ d ≤ 255) (ay : Option Addr) (cy : Nat) (y : List Int) (hyl : y.length ≤ 9223372036854775807) (hys : Sl w0 F ay 1 (y.map fun n => [Value.int .u8 n])) (hyr : ∀ z ∈ y, 0 ≤ z ∧ z ≤ 255) (hs : St w0 w F) :
  Con Try.prog 11 [.agg (p.cells a c).toArray, .int .u8 d, .slice ay y.length cy] w fun v w' => v = .bool true ∧ St w0 w' F := by
  refine con_of_wc (n := 119) Try.func11 rfl rfl (Nat.le_of_ble_eq_true rfl) ?_
  refine w_seq (fun K2 hK1 => ?_)
  refine w_region ?_
  refine w_box (v := .agg #[.int _ _, .int _ _, .int _ _, .slice _ _ _]) (cs := [_, _, _, _]) want_none rfl rfl rfl hs (fun b3 w4 hs5 => ?_)
  refine w_pure want_none (y_assign (v := _) rfl rfl) rfl ?_
  refine w_nil ?_
  refine q_then (hK1 _ _ ?_)
  refine w_seq (fun K7 hK6 => ?_)
  refine w_seq (fun K9 hK8 => ?_)
  have hbx3 : Ats w0 ((b3, blk 26 (p.cells a c)) :: F) b3 0 (p.cells a c) := ats_own (i := 0) (vs := (p.cells a c)) rfl rfl
  refine w_region ?_
  refine w_pure want_none (y_loadN (vs := [_, _, _, _]) Try.isAgg26 Try.sizeOf26 hs5 rfl rfl hbx3) rfl ?_
  refine w_call want_none Try.call37 rfl rfl rfl rfl (c37 p _ _ (by omega) (by omega) ha.cons hnm hs5) ?_
  rintro _ w11 ⟨rfl, hs12⟩
  refine w_pure want_none (y_not rfl rfl) rfl ?_
  refine w_pure want_none (y_move (v := .bool _) rfl rfl) rfl ?_
  refine w_split (fun h13 => ?_) (fun h13 => ?_)
  ·
    try simp only [Bool.not_eq_true', Bool.not_eq_false', decide_eq_true_eq, decide_eq_false_iff_not, Int.not_lt, Int.not_le] at h13
    refine w_skipop rfl rfl rfl ?_
    refine w_skipop rfl rfl rfl ?_
    refine w_skipop rfl rfl rfl ?_
    refine w_skipop rfl rfl rfl ?_
    refine w_pure want_none (y_pickT (v := _) rfl rfl rfl rfl) rfl ?_
    refine w_nil ?_
    refine q_then (hK8 _ _ ?_)
    refine w_condT rfl rfl ?_
    refine w_seq (fun K15 hK14 => ?_)
    refine w_region ?_
    refine w_pure want_none (y_loadN (vs := [_, _, _, _]) Try.isAgg26 Try.sizeOf26 hs12 rfl rfl hbx3) rfl ?_
    refine w_call want_none Try.call29 rfl rfl rfl rfl (c29 p _ _ (by omega) (by omega) ha.cons hnm 0 hs12) ?_
    rintro _ w17 ⟨rfl, hs18⟩
    refine w_pure want_none (y_move (v := .tuple _) rfl rfl) rfl ?_
    refine w_pure want_none (y_extract (v := .int _ _) rfl rfl rfl) rfl ?_
    refine w_pure want_none (y_extract (v := .int _ _) rfl rfl rfl) rfl ?_
    refine w_pure want_none (y_assign (v := .int _ _) rfl rfl) rfl ?_
    refine w_pure want_none (y_assign (v := .int _ _) rfl rfl) rfl ?_
    refine w_nil ?_
    refine q_then (hK14 _ _ ?_)
    refine w_seq (fun K20 hK19 => ?_)
    refine w_region ?_
    refine w_pure want_none (y_move (v := .int _ _) rfl rfl) rfl ?_
    refine w_pure want_none (y_neq rfl rfl rfl rfl) rfl ?_
    refine w_pure want_none (y_move (v := .bool _) rfl rfl) rfl ?_
    refine w_split (fun h21 => ?_) (fun h21 => ?_)
    ·
      try simp only [Bool.not_eq_true', Bool.not_eq_false', decide_eq_true_eq, decide_eq_false_iff_not, Int.not_lt, Int.not_le] at h21
      refine w_call (want_yes rfl rfl rfl) Try.call23 rfl rfl rfl rfl (c23 hs18) ?_
      rintro _ w23 ⟨rfl, hs24⟩
      refine w_pure want_none (y_pickT (v := .bool _) rfl rfl rfl rfl) rfl ?_
      refine w_pure want_none (y_assign (v := .bool _) rfl rfl) rfl ?_
      refine w_nil ?_
      refine q_then (hK19 _ _ ?_)
      refine w_ret ?_
      refine q_then_ret ?_
      refine q_ret (l := [.tmp 6]) (vs := [_]) rfl ⟨⟨rfl, show _ = (.bool _ : Value) from rfl⟩, trivial⟩ ?_
      exact ⟨rfl, hs24.tail⟩
    ·
      exfalso
      try simp only [Bool.not_eq_true', Bool.not_eq_false', decide_eq_true_eq, decide_eq_false_iff_not, Int.not_lt, Int.not_le] at h21
      first | (have := (held_e1 (p := p) (z := 0) (by assumption)).2; omega) | (have := held_zero (p := p) (by assumption) (by omega); omega)
  ·
    try simp only [Bool.not_eq_true', Bool.not_eq_false', decide_eq_true_eq, decide_eq_false_iff_not, Int.not_lt, Int.not_le] at h13
    refine w_pure (want_yes rfl rfl rfl) (y_fieldAddr (o := 3) (i := 2) Try.underlying26 rfl Try.sizeOf24 rfl rfl rfl) rfl ?_
    refine w_pure (want_yes rfl rfl rfl) (y_load1 Try.isAgg24 hs12 rfl rfl (show Ats _ _ _ _ [_] from Ats.part hbx3 3 1)) rfl ?_
    refine w_pure (want_yes rfl rfl rfl) (y_lenS Try.underlying24 rfl rfl) rfl ?_
    refine w_pure (want_yes rfl rfl rfl) (y_eql rfl rfl rfl rfl) rfl ?_
    refine w_pure want_none (y_pickF (v := .bool _) rfl rfl rfl rfl) rfl ?_
    refine w_nil ?_
    refine q_then (hK8 _ _ ?_)
    refine w_cond rfl rfl (fun h25 => ?_) (fun h25 => ?_)
    ·
      try simp only [Bool.not_eq_true', Bool.not_eq_false', decide_eq_true_eq, decide_eq_false_iff_not, Int.not_lt, Int.not_le] at h25
      refine w_seq (fun K27 hK26 => ?_)
      refine w_region ?_
      refine w_pure want_none (y_loadN (vs := [_, _, _, _]) Try.isAgg26 Try.sizeOf26 hs12 rfl rfl hbx3) rfl ?_
      refine w_call want_none Try.call29 rfl rfl rfl rfl (c29 p _ _ (by omega) (by omega) ha.cons hnm 0 hs12) ?_
      rintro _ w29 ⟨rfl, hs30⟩
      refine w_pure want_none (y_move (v := .tuple _) rfl rfl) rfl ?_
      refine w_pure want_none (y_extract (v := .int _ _) rfl rfl rfl) rfl ?_
      refine w_pure want_none (y_extract (v := .int _ _) rfl rfl rfl) rfl ?_
      refine w_pure want_none (y_assign (v := .int _ _) rfl rfl) rfl ?_
      refine w_pure want_none (y_assign (v := .int _ _) rfl rfl) rfl ?_
      refine w_nil ?_
      refine q_then (hK26 _ _ ?_)
      refine w_seq (fun K32 hK31 => ?_)
      refine w_region ?_
      refine w_pure want_none (y_move (v := .int _ _) rfl rfl) rfl ?_
      refine w_pure want_none (y_neq rfl rfl rfl rfl) rfl ?_
      refine w_pure want_none (y_move (v := .bool _) rfl rfl) rfl ?_
      refine w_split (fun h33 => ?_) (fun h33 => ?_)
      ·
        try simp only [Bool.not_eq_true', Bool.not_eq_false', decide_eq_true_eq, decide_eq_false_iff_not, Int.not_lt, Int.not_le] at h33
        refine w_call (want_yes rfl rfl rfl) Try.call23 rfl rfl rfl rfl (c23 hs30) ?_
        rintro _ w35 ⟨rfl, hs36⟩
        refine w_pure want_none (y_pickT (v := .bool _) rfl rfl rfl rfl) rfl ?_
        refine w_pure want_none (y_assign (v := .bool _) rfl rfl) rfl ?_
        refine w_nil ?_
        refine q_then (hK31 _ _ ?_)
        refine w_ret ?_
        refine q_then_ret ?_
        refine q_ret (l := [.tmp 6]) (vs := [_]) rfl ⟨⟨rfl, show _ = (.bool _ : Value) from rfl⟩, trivial⟩ ?_
        exact ⟨rfl, hs36.tail⟩
      ·
        exfalso
        try simp only [Bool.not_eq_true', Bool.not_eq_false', decide_eq_true_eq, decide_eq_false_iff_not, Int.not_lt, Int.not_le] at h33
        first | (have := (held_e1 (p := p) (z := 0) (by assumption)).2; omega) | (have := held_zero (p := p) (by assumption) (by omega); omega)
    ·
      try simp only [Bool.not_eq_true', Bool.not_eq_false', decide_eq_true_eq, decide_eq_false_iff_not, Int.not_lt, Int.not_le] at h25
      refine w_skip ?_
      refine q_then (hK6 _ _ ?_)
      refine w_seq (fun K38 hK37 => ?_)
      have hck : (check p).2.2 = 0 := by assumption
      have hok := check_ok hck
      have hlen3 := hok.len
      refine w_region ?_
      refine w_pure want_none (y_move (v := .int _ _) rfl rfl) rfl ?_
      refine w_pure want_none (y_u8int (by rw [Try.underlying5]; rfl) Try.underlying3 rfl rfl (by omega) (by omega)) rfl ?_
      refine w_pure want_none (y_fieldAddr (o := 3) (i := 2) Try.underlying26 rfl Try.sizeOf24 rfl rfl rfl) rfl ?_
      refine w_pure want_none (y_load1 Try.isAgg24 hs12 rfl rfl (show Ats _ _ _ _ [_] from Ats.part hbx3 3 1)) rfl ?_
      refine w_pure want_none (y_lenS Try.underlying24 rfl rfl) rfl ?_
      refine w_pure want_none (y_rem rfl rfl rfl rfl (by omega) (by omega)) rfl ?_
      refine w_pure want_none (y_assign (v := .int _ _) rfl rfl) rfl ?_
      refine w_nil ?_
      refine q_then (hK37 _ _ ?_)
      refine w_seq (fun K40 hK39 => ?_)
      have he1 := Int.emod_nonneg d (show (p.farms.length : Int) ≠ 0 by omega)
      have he2 := Int.emod_lt_of_pos d (show (0:Int) < p.farms.length by omega)
      generalize d % (p.farms.length : Int) = z0 at he1 he2 ⊢
      obtain ⟨f, rfl⟩ : ∃ f : Nat, z0 = f := ⟨z0.toNat, by omega⟩
      have hf : f < p.farms.length := by omega
      obtain ⟨hhE, hhR, hhN, hhS⟩ := held_spec hck hf
      have hoD : does p (anyC p.farms.length y) = 1 → heldE p f = 0 := fun h => by have hm := do_mem (any_all _ y) (does_one.1 h); by_cases e : heldE p f = 0; exact e; rw [(hhN e).2] at hm; cases hm
      have hz : ¬ heldE p f = 0 → heldD p f = 0 := fun h => (hhN h).1
      have hoH : heldE p f = 0 → does p (anyC p.farms.length y) = 1 → ¬ heldD p f = -1 → (anyC p.farms.length y).getD f 0 ≤ heldD p f ∧ (anyC p.farms.length y).getD f 0 ≠ -1 := fun h0 h h2 => (hhS h0).2 h2 _ (do_mem (any_all _ y) (does_one.1 h))
      have hmt : heldE p f = 0 → ((doC p).any fun l => decide (l.getD f 0 = heldD p f)) = true := fun h => by
        obtain ⟨l, hl, h⟩ := (hhS h).1
        exact List.any_eq_true.2 ⟨l, hl, by simpa using h⟩
      clear hhS hhN
      refine w_region ?_
      refine w_pure want_none (y_loadN (vs := [_, _, _, _]) Try.isAgg26 Try.sizeOf26 hs12 rfl rfl hbx3) rfl ?_
      refine w_pure want_none (y_move (v := .int _ _) rfl rfl) rfl ?_
      refine w_call want_none Try.call29 rfl rfl rfl rfl (c29 p _ _ (by omega) (by omega) ha.cons hnm f hs12) ?_
      rintro _ w42 ⟨rfl, hs43⟩
      refine w_pure want_none (y_move (v := .tuple _) rfl rfl) rfl ?_
      refine w_pure want_none (y_extract (v := .int _ _) rfl rfl rfl) rfl ?_
      refine w_pure want_none (y_extract (v := .int _ _) rfl rfl rfl) rfl ?_
      refine w_pure want_none (y_assign (v := .int _ _) rfl rfl) rfl ?_
      refine w_pure want_none (y_assign (v := .int _ _) rfl rfl) rfl ?_
      refine w_nil ?_
      refine q_then (hK39 _ _ ?_)
      refine w_seq (fun K45 hK44 => ?_)
      refine w_region ?_
      refine w_pure want_none (y_loadN (vs := [_, _, _, _]) Try.isAgg26 Try.sizeOf26 hs43 rfl rfl hbx3) rfl ?_
      refine w_pure want_none (y_move (v := .slice _ _ _) rfl rfl) rfl ?_
      refine w_call want_none Try.call40 rfl rfl rfl rfl (c40 p _ _ (by omega) _ _ y hyl hys.cons hyr hs43) ?_
      rintro _ w47 ⟨B2, aq2, cq2, rfl, h_B2, hs48⟩
      replace hs48 := (show St _ _ (B2 ++ (_ :: F)) from hs48)
      refine w_pure want_none (y_assign (v := .slice _ _ _) rfl rfl) rfl ?_
      refine w_nil ?_
      refine q_then (hK44 _ _ ?_)
      refine w_seq (fun K50 hK49 => ?_)
      refine w_region ?_
      refine w_pure want_none (y_loadN (vs := [_, _, _, _]) Try.isAgg26 Try.sizeOf26 hs48.drop rfl rfl hbx3) rfl ?_
      refine w_pure want_none (y_move (v := .slice _ _ _) rfl rfl) rfl ?_
      refine w_call want_none Try.call42 rfl rfl rfl rfl (c42 p _ _ ha.cons.app hok _ _ (anyC p.farms.length y) (any_len _ _) h_B2 any_in hs48) ?_
      rintro _ w52 ⟨rfl, hs53⟩
      refine w_pure want_none (y_eql rfl rfl rfl rfl) rfl ?_
      refine w_pure want_none (y_assign (v := .bool _) rfl rfl) rfl ?_
      refine w_nil ?_
      refine q_then (hK49 _ _ ?_)
      refine w_seq (fun K55 hK54 => ?_)
      refine w_seq (fun K57 hK56 => ?_)
      refine w_region ?_
      refine w_pure want_none (y_move (v := .int _ _) rfl rfl) rfl ?_
      refine w_pure want_none (y_neq rfl rfl rfl rfl) rfl ?_
      refine w_nil ?_
      refine q_then (hK56 _ _ ?_)
      refine w_cond rfl rfl (fun h58 => ?_) (fun h58 => ?_)
      ·
        try simp only [Bool.not_eq_true', Bool.not_eq_false', decide_eq_true_eq, decide_eq_false_iff_not, Int.not_lt, Int.not_le] at h58
        refine w_seq (fun K60 hK59 => ?_)
        refine w_region ?_
        refine w_pure want_none (y_move (v := .int _ _) rfl rfl) rfl ?_
        refine w_pure want_none (y_eql rfl rfl rfl rfl) rfl ?_
        refine w_pure want_none (y_move (v := .bool _) rfl rfl) rfl ?_
        refine w_split (fun h61 => ?_) (fun h61 => ?_)
        ·
          try simp only [Bool.not_eq_true', Bool.not_eq_false', decide_eq_true_eq, decide_eq_false_iff_not, Int.not_lt, Int.not_le] at h61
          refine w_pure (want_yes rfl rfl rfl) (y_move (v := .int _ _) rfl rfl) rfl ?_
          refine w_pure (want_yes rfl rfl rfl) (y_eql rfl rfl rfl rfl) rfl ?_
          refine w_pure want_none (y_pickT (v := .bool _) rfl rfl rfl rfl) rfl ?_
          refine w_pure want_none (y_move (v := .bool _) rfl rfl) rfl ?_
          refine w_split (fun h62 => ?_) (fun h62 => ?_)
          ·
            try simp only [Bool.not_eq_true', Bool.not_eq_false', decide_eq_true_eq, decide_eq_false_iff_not, Int.not_lt, Int.not_le] at h62
            refine w_pure (want_yes rfl rfl rfl) (y_move (v := .bool _) rfl rfl) rfl ?_
            refine w_pure (want_yes rfl rfl rfl) (y_not rfl rfl) rfl ?_
            refine w_pure want_none (y_pickT (v := .bool _) rfl rfl rfl rfl) rfl ?_
            refine w_pure want_none (y_move (v := .bool _) rfl rfl) rfl ?_
            refine w_split (fun h63 => ?_) (fun h63 => ?_)
            ·
              try simp only [Bool.not_eq_true', Bool.not_eq_false', decide_eq_true_eq, decide_eq_false_iff_not, Int.not_lt, Int.not_le] at h63
              refine w_call (want_yes rfl rfl rfl) Try.call23 rfl rfl rfl rfl (c23 hs53) ?_
              rintro _ w65 ⟨rfl, hs66⟩
              refine w_pure want_none (y_pickT (v := .bool _) rfl rfl rfl rfl) rfl ?_
              refine w_pure want_none (y_assign (v := .bool _) rfl rfl) rfl ?_
              refine w_nil ?_
              refine q_then (hK59 _ _ ?_)
              refine w_ret ?_
              refine q_then_ret ?_
              refine q_ret (l := [.tmp 6]) (vs := [_]) rfl ⟨⟨rfl, show _ = (.bool _ : Value) from rfl⟩, trivial⟩ ?_
              exact ⟨rfl, hs66.drop.tail⟩
            ·
              exfalso
              try simp only [Bool.not_eq_true', Bool.not_eq_false', decide_eq_true_eq, decide_eq_false_iff_not, Int.not_lt, Int.not_le] at h63
              omega
          ·
            exfalso
            try simp only [Bool.not_eq_true', Bool.not_eq_false', decide_eq_true_eq, decide_eq_false_iff_not, Int.not_lt, Int.not_le] at h62
            omega
        ·
          exfalso
          try simp only [Bool.not_eq_true', Bool.not_eq_false', decide_eq_true_eq, decide_eq_false_iff_not, Int.not_lt, Int.not_le] at h61
          omega
      ·
        try simp only [Bool.not_eq_true', Bool.not_eq_false', decide_eq_true_eq, decide_eq_false_iff_not, Int.not_lt, Int.not_le] at h58
        refine w_skip ?_
        refine q_then (hK54 _ _ ?_)
        refine w_seq (fun K68 hK67 => ?_)
        refine w_seq (fun K70 hK69 => ?_)
        refine w_region ?_
        refine w_pure want_none (y_move (v := .int _ _) rfl rfl) rfl ?_
        refine w_call want_none Try.call45 rfl rfl rfl rfl (c45 _ _ _ hs53) ?_
        rintro _ w72 ⟨rfl, hs73⟩
        refine w_pure want_none (y_not rfl rfl) rfl ?_
        refine w_pure want_none (y_move (v := .bool _) rfl rfl) rfl ?_
        refine w_split (fun h74 => ?_) (fun h74 => ?_)
        ·
          exfalso
          try simp only [Bool.not_eq_true', Bool.not_eq_false', decide_eq_true_eq, decide_eq_false_iff_not, Int.not_lt, Int.not_le] at h74
          omega
        ·
          try simp only [Bool.not_eq_true', Bool.not_eq_false', decide_eq_true_eq, decide_eq_false_iff_not, Int.not_lt, Int.not_le] at h74
          refine w_pure (want_yes rfl rfl rfl) (y_move (v := .bool _) rfl rfl) rfl ?_
          refine w_pure (want_yes rfl rfl rfl) (y_move (v := .bool _) rfl rfl) rfl ?_
          refine w_split (fun h75 => ?_) (fun h75 => ?_)
          ·
            try simp only [Bool.not_eq_true', Bool.not_eq_false', decide_eq_true_eq, decide_eq_false_iff_not, Int.not_lt, Int.not_le] at h75
            refine w_pure (want_yes rfl rfl rfl) (y_move (v := .int _ _) rfl rfl) rfl ?_
            refine w_pure (want_yes rfl rfl rfl) (y_neq rfl rfl rfl rfl) rfl ?_
            refine w_pure (want_yes rfl rfl rfl) (y_pickT (v := .bool _) rfl rfl rfl rfl) rfl ?_
            refine w_pure (want_yes rfl rfl rfl) (y_move (v := .bool _) rfl rfl) rfl ?_
            refine w_split (fun h76 => ?_) (fun h76 => ?_)
            ·
              try simp only [Bool.not_eq_true', Bool.not_eq_false', decide_eq_true_eq, decide_eq_false_iff_not, Int.not_lt, Int.not_le] at h76
              refine w_pure (want_yes rfl rfl rfl) (y_move (v := .slice _ _ _) rfl rfl) rfl ?_
              refine w_pure (want_yes rfl rfl rfl) (y_move (v := .int _ _) rfl rfl) rfl ?_
              have hfo : f < (anyC p.farms.length y).length := by rw [any_len]; exact hf
              obtain ⟨bo, oo, rfl, hob⟩ := sl_ints h_B2 hfo
              have hgo : ((anyC p.farms.length y))[f] = (anyC p.farms.length y).getD f 0 := by simp [List.getD, hfo]
              rw [hgo] at hob
              have hoh := hoH (by assumption) (by assumption) (by assumption)
              refine w_pure (want_yes rfl rfl rfl) (y_indexS Try.underlying27 Try.sizeOf3 rfl rfl rfl rfl (i := _) rfl (by omega)) rfl ?_
              refine w_pure (want_yes rfl rfl rfl) (y_load1 Try.isAgg3 hs73 rfl rfl hob) rfl ?_
              refine w_pure (want_yes rfl rfl rfl) (y_move (v := .int _ _) rfl rfl) rfl ?_
              refine w_pure (want_yes rfl rfl rfl) (y_gtr rfl rfl rfl rfl) rfl ?_
              refine w_pure (want_yes rfl rfl rfl) (y_move (v := .bool _) rfl rfl) rfl ?_
              refine w_split (fun h77 => ?_) (fun h77 => ?_)
              ·
                exfalso
                try simp only [Bool.not_eq_true', Bool.not_eq_false', decide_eq_true_eq, decide_eq_false_iff_not, Int.not_lt, Int.not_le] at h77
                omega
              ·
                try simp only [Bool.not_eq_true', Bool.not_eq_false', decide_eq_true_eq, decide_eq_false_iff_not, Int.not_lt, Int.not_le] at h77
                refine w_pure (want_yes rfl rfl rfl) (y_move (v := .slice _ _ _) rfl rfl) rfl ?_
                refine w_pure (want_yes rfl rfl rfl) (y_move (v := .int _ _) rfl rfl) rfl ?_
                refine w_pure (want_yes rfl rfl rfl) (y_indexS Try.underlying27 Try.sizeOf3 rfl rfl rfl rfl (i := _) rfl (by omega)) rfl ?_
                refine w_pure (want_yes rfl rfl rfl) (y_load1 Try.isAgg3 hs73 rfl rfl hob) rfl ?_
                refine w_pure (want_yes rfl rfl rfl) (y_eql rfl rfl rfl rfl) rfl ?_
                refine w_pure (want_yes rfl rfl rfl) (y_pickF (v := .bool _) rfl rfl rfl rfl) rfl ?_
                refine w_pure (want_yes rfl rfl rfl) (y_pickT (v := .bool _) rfl rfl rfl rfl) rfl ?_
                refine w_pure want_none (y_pickF (v := .bool _) rfl rfl rfl rfl) rfl ?_
                refine w_nil ?_
                refine q_then (hK69 _ _ ?_)
                refine w_cond rfl rfl (fun h78 => ?_) (fun h78 => ?_)
                ·
                  exfalso
                  try simp only [Bool.not_eq_true', Bool.not_eq_false', decide_eq_true_eq, decide_eq_false_iff_not, Int.not_lt, Int.not_le] at h78
                  omega
                ·
                  try simp only [Bool.not_eq_true', Bool.not_eq_false', decide_eq_true_eq, decide_eq_false_iff_not, Int.not_lt, Int.not_le] at h78
                  refine w_skip ?_
                  refine q_then (hK67 _ _ ?_)
                  refine w_seq (fun K80 hK79 => ?_)
                  refine w_region ?_
                  refine w_pure want_none (y_loadN (vs := [_, _, _, _]) Try.isAgg26 Try.sizeOf26 hs73.drop rfl rfl hbx3) rfl ?_
                  refine w_call want_none Try.call47 rfl rfl rfl rfl (c47 p _ _ ha.cons.app hok hs73) ?_
                  rintro _ w82 ⟨BD, vd, ad, cd, rfl, hsd, hed, hs83⟩
                  replace hs83 := (show St _ _ (BD ++ (B2 ++ (_ :: F))) from hs83)
                  have hsm := do_small hok
                  refine w_pure want_none (y_assign (v := .slice _ _ _) rfl rfl) rfl ?_
                  refine w_nil ?_
                  refine q_then (hK79 _ _ ?_)
                  refine w_seq (fun K85 hK84 => ?_)
                  refine w_region ?_
                  refine w_pure want_none (y_assign (v := _) rfl rfl) rfl ?_
                  refine w_nil ?_
                  refine q_then (hK84 _ _ ?_)
                  refine w_seq (fun K87 hK86 => ?_)
                  refine w_seq (fun K89 hK88 => ?_)
                  refine w_region ?_
                  refine w_pure want_none (y_assign (v := _) rfl rfl) rfl ?_
                  refine w_nil ?_
                  refine q_then (hK88 _ _ ?_)
                  refine w_block ?_
                  refine w_loop [15, 16, 97, 98, 99, 100, 101, 102, 103, 104, 105, 106, 107, 108, 109, 110, 111, 112, 113, 114] [15, 16] (fun kk vs0 w => ∃ (i : Nat) (m : Bool), m = (((doC p).take i).any fun l => decide (l.getD f 0 = heldD p f)) ∧ vs0 = [.bool m, .int .i64 i] ∧ i ≤ (doC p).length ∧ kk = (doC p).length - i ∧ St w0 w (BD ++ (B2 ++ ((b3, blk 26 (p.cells a c)) :: F)))) ((doC p).length) ?_ ?_
                  ·
                    exact ⟨0, false, rfl, rfl, by omega, by omega, hs83⟩
                  ·
                    intro k vs μ w92 hI K91 hN90
                    obtain ⟨i, m, hm, rfl, hia, rfl, hs⟩ := hI
                    refine w_seq (fun K94 hK93 => ?_)
                    refine w_seq (fun K96 hK95 => ?_)
                    refine w_region ?_
                    refine w_pure want_none (y_move (v := .int _ _) rfl rfl) rfl ?_
                    refine w_pure want_none (y_move (v := .slice _ _ _) rfl rfl) rfl ?_
                    refine w_pure want_none (y_lenS Try.underlying62 rfl rfl) rfl ?_
                    refine w_pure want_none (y_lss rfl rfl rfl rfl) rfl ?_
                    refine w_nil ?_
                    refine q_then (hK95 _ _ ?_)
                    refine w_cond rfl rfl (fun h97 => ?_) (fun h97 => ?_)
                    ·
                      try simp only [Bool.not_eq_true', Bool.not_eq_false', decide_eq_true_eq, decide_eq_false_iff_not, Int.not_lt, Int.not_le] at h97
                      refine w_skip ?_
                      refine q_then (hK93 _ _ ?_)
                      refine w_seq (fun K99 hK98 => ?_)
                      refine w_block ?_
                      have hi2 : i < (doC p).length := by omega
                      obtain ⟨bx2, ox2, b3, c3, rfl, hy, hsy, hny⟩ := el_at hsd hed hi2
                      have hln := do_len (List.getElem_mem hi2)
                      have hfi : f < ((doC p)[i]).length := by omega
                      obtain ⟨bl, ol, rfl, hz⟩ := sl_ints hsy hfi
                      have hgf : ((doC p)[i])[f] = ((doC p)[i]).getD f 0 := by simp [List.getD, hfi]
                      rw [hgf] at hz
                      refine w_region ?_
                      refine w_pure want_none (y_move (v := .bool _) rfl rfl) rfl ?_
                      refine w_pure want_none (y_move (v := .bool _) rfl rfl) rfl ?_
                      refine w_split (fun h100 => ?_) (fun h100 => ?_)
                      ·
                        try simp only [Bool.not_eq_true', Bool.not_eq_false', decide_eq_true_eq, decide_eq_false_iff_not, Int.not_lt, Int.not_le] at h100
                        refine w_skipop rfl rfl rfl ?_
                        refine w_skipop rfl rfl rfl ?_
                        refine w_skipop rfl rfl rfl ?_
                        refine w_skipop rfl rfl rfl ?_
                        refine w_skipop rfl rfl rfl ?_
                        refine w_skipop rfl rfl rfl ?_
                        refine w_skipop rfl rfl rfl ?_
                        refine w_skipop rfl rfl rfl ?_
                        refine w_skipop rfl rfl rfl ?_
                        refine w_pure want_none (y_pickT (v := _) rfl rfl rfl rfl) rfl ?_
                        refine w_pure want_none (y_assign (v := .bool _) rfl rfl) rfl ?_
                        refine w_nil ?_
                        refine q_blk_normal ?_
                        refine q_then (hK98 _ _ ?_)
                        refine w_region ?_
                        refine w_pure want_none (y_move (v := .int _ _) rfl rfl) rfl ?_
                        refine w_pure want_none (y_add rfl rfl rfl rfl (by omega) (by omega)) rfl ?_
                        refine w_pure want_none (y_assign (v := .int _ _) rfl rfl) rfl ?_
                        refine w_nil ?_
                        refine q_then (hN90 _ _ (Nx.intro ((doC p).length - (i + 1)) (by omega) (by repeat (first | exact agree_mix | refine agree_upd rfl ?_ | refine agree_updL rfl ?_ _ | refine agree_mixin rfl ?_)) ?_))
                        exact ⟨i + 1, _, (by rw [any_snoc hi2, ← hm]; simp [h13, h25, h58, h74, h75, h76, h77, h78, h97, h100]), rfl, by omega, rfl, hs⟩
                      ·
                        try simp only [Bool.not_eq_true', Bool.not_eq_false', decide_eq_true_eq, decide_eq_false_iff_not, Int.not_lt, Int.not_le] at h100
                        refine w_pure (want_yes rfl rfl rfl) (y_move (v := .slice _ _ _) rfl rfl) rfl ?_
                        refine w_pure (want_yes rfl rfl rfl) (y_move (v := .int _ _) rfl rfl) rfl ?_
                        refine w_pure (want_yes rfl rfl rfl) (y_indexS Try.underlying62 Try.sizeOf27 rfl rfl rfl rfl (i := _) rfl (by omega)) rfl ?_
                        refine w_pure (want_yes rfl rfl rfl) (y_load1 Try.isAgg27 hs rfl rfl hy) rfl ?_
                        refine w_pure (want_yes rfl rfl rfl) (y_move (v := .int _ _) rfl rfl) rfl ?_
                        refine w_pure (want_yes rfl rfl rfl) (y_indexS Try.underlying27 Try.sizeOf3 rfl rfl rfl rfl (i := _) rfl (by omega)) rfl ?_
                        refine w_pure (want_yes rfl rfl rfl) (y_load1 Try.isAgg3 hs rfl rfl hz) rfl ?_
                        refine w_pure (want_yes rfl rfl rfl) (y_move (v := .int _ _) rfl rfl) rfl ?_
                        refine w_pure (want_yes rfl rfl rfl) (y_eql rfl rfl rfl rfl) rfl ?_
                        refine w_pure want_none (y_pickF (v := .bool _) rfl rfl rfl rfl) rfl ?_
                        refine w_pure want_none (y_assign (v := .bool _) rfl rfl) rfl ?_
                        refine w_nil ?_
                        refine q_blk_normal ?_
                        refine q_then (hK98 _ _ ?_)
                        refine w_region ?_
                        refine w_pure want_none (y_move (v := .int _ _) rfl rfl) rfl ?_
                        refine w_pure want_none (y_add rfl rfl rfl rfl (by omega) (by omega)) rfl ?_
                        refine w_pure want_none (y_assign (v := .int _ _) rfl rfl) rfl ?_
                        refine w_nil ?_
                        refine q_then (hN90 _ _ (Nx.intro ((doC p).length - (i + 1)) (by omega) (by repeat (first | exact agree_mix | refine agree_upd rfl ?_ | refine agree_updL rfl ?_ _ | refine agree_mixin rfl ?_)) ?_))
                        exact ⟨i + 1, _, (by rw [any_snoc hi2, ← hm]; simp [h13, h25, h58, h74, h75, h76, h77, h78, h97, h100]), rfl, by omega, rfl, hs⟩
                    ·
                      try simp only [Bool.not_eq_true', Bool.not_eq_false', decide_eq_true_eq, decide_eq_false_iff_not, Int.not_lt, Int.not_le] at h97
                      refine w_exit ?_
                      refine q_then_exit ?_
                      refine q_then_exit ?_
                      refine q_blk_this ?_
                      refine q_then (hK86 _ _ ?_)
                      refine w_seq (fun K102 hK101 => ?_)
                      rw [List.take_of_length_le (by omega), hmt (by assumption)] at hm
                      subst hm
                      refine w_region ?_
                      refine w_pure want_none (y_move (v := .bool _) rfl rfl) rfl ?_
                      refine w_pure want_none (y_move (v := .bool _) rfl rfl) rfl ?_
                      refine w_split (fun h103 => ?_) (fun h103 => ?_)
                      ·
                        try simp only [Bool.not_eq_true', Bool.not_eq_false', decide_eq_true_eq, decide_eq_false_iff_not, Int.not_lt, Int.not_le] at h103
                        refine w_call (want_yes rfl rfl rfl) Try.call23 rfl rfl rfl rfl (c23 hs) ?_
                        rintro _ w105 ⟨rfl, hs106⟩
                        refine w_pure want_none (y_pickT (v := .bool _) rfl rfl rfl rfl) rfl ?_
                        refine w_pure want_none (y_assign (v := .bool _) rfl rfl) rfl ?_
                        refine w_nil ?_
                        refine q_then (hK101 _ _ ?_)
                        refine w_ret ?_
                        refine q_ret (l := [.tmp 6]) (vs := [_]) rfl ⟨⟨rfl, show _ = (.bool _ : Value) from rfl⟩, trivial⟩ ?_
                        exact ⟨rfl, hs106.drop.drop.tail⟩
                      ·
                        exfalso; simp at h103
            ·
              try simp only [Bool.not_eq_true', Bool.not_eq_false', decide_eq_true_eq, decide_eq_false_iff_not, Int.not_lt, Int.not_le] at h76
              refine w_skipop rfl rfl rfl ?_
              refine w_skipop rfl rfl rfl ?_
              refine w_skipop rfl rfl rfl ?_
              refine w_skipop rfl rfl rfl ?_
              refine w_skipop rfl rfl rfl ?_
              refine w_skipop rfl rfl rfl ?_
              refine w_skipop rfl rfl rfl ?_
              refine w_skipop' rfl rfl rfl ?_
              refine w_skipop' rfl rfl rfl ?_
              refine w_skipop' rfl rfl rfl ?_
              refine w_skipop' rfl rfl rfl ?_
              refine w_skipop' rfl rfl rfl ?_
              refine w_skipop rfl rfl rfl ?_
              refine w_pure (want_yes rfl rfl rfl) (y_pickF (v := _) rfl rfl rfl rfl) rfl ?_
              refine w_pure want_none (y_pickF (v := .bool _) rfl rfl rfl rfl) rfl ?_
              refine w_nil ?_
              refine q_then (hK69 _ _ ?_)
              refine w_condF rfl rfl ?_
              refine w_skip ?_
              refine q_then (hK67 _ _ ?_)
              refine w_seq (fun K108 hK107 => ?_)
              refine w_region ?_
              refine w_pure want_none (y_loadN (vs := [_, _, _, _]) Try.isAgg26 Try.sizeOf26 hs73.drop rfl rfl hbx3) rfl ?_
              refine w_call want_none Try.call47 rfl rfl rfl rfl (c47 p _ _ ha.cons.app hok hs73) ?_
              rintro _ w110 ⟨BD, vd, ad, cd, rfl, hsd, hed, hs111⟩
              replace hs111 := (show St _ _ (BD ++ (B2 ++ (_ :: F))) from hs111)
              have hsm := do_small hok
              refine w_pure want_none (y_assign (v := .slice _ _ _) rfl rfl) rfl ?_
              refine w_nil ?_
              refine q_then (hK107 _ _ ?_)
              refine w_seq (fun K113 hK112 => ?_)
              refine w_region ?_
              refine w_pure want_none (y_assign (v := _) rfl rfl) rfl ?_
              refine w_nil ?_
              refine q_then (hK112 _ _ ?_)
              refine w_seq (fun K115 hK114 => ?_)
              refine w_seq (fun K117 hK116 => ?_)
              refine w_region ?_
              refine w_pure want_none (y_assign (v := _) rfl rfl) rfl ?_
              refine w_nil ?_
              refine q_then (hK116 _ _ ?_)
              refine w_block ?_
              refine w_loop [15, 16, 97, 98, 99, 100, 101, 102, 103, 104, 105, 106, 107, 108, 109, 110, 111, 112, 113, 114] [15, 16] (fun kk vs0 w => ∃ (i : Nat) (m : Bool), m = (((doC p).take i).any fun l => decide (l.getD f 0 = heldD p f)) ∧ vs0 = [.bool m, .int .i64 i] ∧ i ≤ (doC p).length ∧ kk = (doC p).length - i ∧ St w0 w (BD ++ (B2 ++ ((b3, blk 26 (p.cells a c)) :: F)))) ((doC p).length) ?_ ?_
              ·
                exact ⟨0, false, rfl, rfl, by omega, by omega, hs111⟩
              ·
                intro k vs μ w120 hI K119 hN118
                obtain ⟨i, m, hm, rfl, hia, rfl, hs⟩ := hI
                refine w_seq (fun K122 hK121 => ?_)
                refine w_seq (fun K124 hK123 => ?_)
                refine w_region ?_
                refine w_pure want_none (y_move (v := .int _ _) rfl rfl) rfl ?_
                refine w_pure want_none (y_move (v := .slice _ _ _) rfl rfl) rfl ?_
                refine w_pure want_none (y_lenS Try.underlying62 rfl rfl) rfl ?_
                refine w_pure want_none (y_lss rfl rfl rfl rfl) rfl ?_
                refine w_nil ?_
                refine q_then (hK123 _ _ ?_)
                refine w_cond rfl rfl (fun h125 => ?_) (fun h125 => ?_)
                ·
                  try simp only [Bool.not_eq_true', Bool.not_eq_false', decide_eq_true_eq, decide_eq_false_iff_not, Int.not_lt, Int.not_le] at h125
                  refine w_skip ?_
                  refine q_then (hK121 _ _ ?_)
                  refine w_seq (fun K127 hK126 => ?_)
                  refine w_block ?_
                  have hi2 : i < (doC p).length := by omega
                  obtain ⟨bx2, ox2, b3, c3, rfl, hy, hsy, hny⟩ := el_at hsd hed hi2
                  have hln := do_len (List.getElem_mem hi2)
                  have hfi : f < ((doC p)[i]).length := by omega
                  obtain ⟨bl, ol, rfl, hz⟩ := sl_ints hsy hfi
                  have hgf : ((doC p)[i])[f] = ((doC p)[i]).getD f 0 := by simp [List.getD, hfi]
                  rw [hgf] at hz
                  refine w_region ?_
                  refine w_pure want_none (y_move (v := .bool _) rfl rfl) rfl ?_
                  refine w_pure want_none (y_move (v := .bool _) rfl rfl) rfl ?_
                  refine w_split (fun h128 => ?_) (fun h128 => ?_)
                  ·
                    try simp only [Bool.not_eq_true', Bool.not_eq_false', decide_eq_true_eq, decide_eq_false_iff_not, Int.not_lt, Int.not_le] at h128
                    refine w_skipop rfl rfl rfl ?_
                    refine w_skipop rfl rfl rfl ?_
                    refine w_skipop rfl rfl rfl ?_
                    refine w_skipop rfl rfl rfl ?_
                    refine w_skipop rfl rfl rfl ?_
                    refine w_skipop rfl rfl rfl ?_
                    refine w_skipop rfl rfl rfl ?_
                    refine w_skipop rfl rfl rfl ?_
                    refine w_skipop rfl rfl rfl ?_
                    refine w_pure want_none (y_pickT (v := _) rfl rfl rfl rfl) rfl ?_
                    refine w_pure want_none (y_assign (v := .bool _) rfl rfl) rfl ?_
                    refine w_nil ?_
                    refine q_blk_normal ?_
                    refine q_then (hK126 _ _ ?_)
                    refine w_region ?_
                    refine w_pure want_none (y_move (v := .int _ _) rfl rfl) rfl ?_
                    refine w_pure want_none (y_add rfl rfl rfl rfl (by omega) (by omega)) rfl ?_
                    refine w_pure want_none (y_assign (v := .int _ _) rfl rfl) rfl ?_
                    refine w_nil ?_
                    refine q_then (hN118 _ _ (Nx.intro ((doC p).length - (i + 1)) (by omega) (by repeat (first | exact agree_mix | refine agree_upd rfl ?_ | refine agree_updL rfl ?_ _ | refine agree_mixin rfl ?_)) ?_))
                    exact ⟨i + 1, _, (by rw [any_snoc hi2, ← hm]; simp [h13, h25, h58, h74, h75, h76, h125, h128]), rfl, by omega, rfl, hs⟩
                  ·
                    try simp only [Bool.not_eq_true', Bool.not_eq_false', decide_eq_true_eq, decide_eq_false_iff_not, Int.not_lt, Int.not_le] at h128
                    refine w_pure (want_yes rfl rfl rfl) (y_move (v := .slice _ _ _) rfl rfl) rfl ?_
                    refine w_pure (want_yes rfl rfl rfl) (y_move (v := .int _ _) rfl rfl) rfl ?_
                    refine w_pure (want_yes rfl rfl rfl) (y_indexS Try.underlying62 Try.sizeOf27 rfl rfl rfl rfl (i := _) rfl (by omega)) rfl ?_
                    refine w_pure (want_yes rfl rfl rfl) (y_load1 Try.isAgg27 hs rfl rfl hy) rfl ?_
                    refine w_pure (want_yes rfl rfl rfl) (y_move (v := .int _ _) rfl rfl) rfl ?_
                    refine w_pure (want_yes rfl rfl rfl) (y_indexS Try.underlying27 Try.sizeOf3 rfl rfl rfl rfl (i := _) rfl (by omega)) rfl ?_
                    refine w_pure (want_yes rfl rfl rfl) (y_load1 Try.isAgg3 hs rfl rfl hz) rfl ?_
                    refine w_pure (want_yes rfl rfl rfl) (y_move (v := .int _ _) rfl rfl) rfl ?_
                    refine w_pure (want_yes rfl rfl rfl) (y_eql rfl rfl rfl rfl) rfl ?_
                    refine w_pure want_none (y_pickF (v := .bool _) rfl rfl rfl rfl) rfl ?_
                    refine w_pure want_none (y_assign (v := .bool _) rfl rfl) rfl ?_
                    refine w_nil ?_
                    refine q_blk_normal ?_
                    refine q_then (hK126 _ _ ?_)
                    refine w_region ?_
                    refine w_pure want_none (y_move (v := .int _ _) rfl rfl) rfl ?_
                    refine w_pure want_none (y_add rfl rfl rfl rfl (by omega) (by omega)) rfl ?_
                    refine w_pure want_none (y_assign (v := .int _ _) rfl rfl) rfl ?_
                    refine w_nil ?_
                    refine q_then (hN118 _ _ (Nx.intro ((doC p).length - (i + 1)) (by omega) (by repeat (first | exact agree_mix | refine agree_upd rfl ?_ | refine agree_updL rfl ?_ _ | refine agree_mixin rfl ?_)) ?_))
                    exact ⟨i + 1, _, (by rw [any_snoc hi2, ← hm]; simp [h13, h25, h58, h74, h75, h76, h125, h128]), rfl, by omega, rfl, hs⟩
                ·
                  try simp only [Bool.not_eq_true', Bool.not_eq_false', decide_eq_true_eq, decide_eq_false_iff_not, Int.not_lt, Int.not_le] at h125
                  refine w_exit ?_
                  refine q_then_exit ?_
                  refine q_then_exit ?_
                  refine q_blk_this ?_
                  refine q_then (hK114 _ _ ?_)
                  refine w_seq (fun K130 hK129 => ?_)
                  rw [List.take_of_length_le (by omega), hmt (by assumption)] at hm
                  subst hm
                  refine w_region ?_
                  refine w_pure want_none (y_move (v := .bool _) rfl rfl) rfl ?_
                  refine w_pure want_none (y_move (v := .bool _) rfl rfl) rfl ?_
                  refine w_split (fun h131 => ?_) (fun h131 => ?_)
                  ·
                    try simp only [Bool.not_eq_true', Bool.not_eq_false', decide_eq_true_eq, decide_eq_false_iff_not, Int.not_lt, Int.not_le] at h131
                    refine w_call (want_yes rfl rfl rfl) Try.call23 rfl rfl rfl rfl (c23 hs) ?_
                    rintro _ w133 ⟨rfl, hs134⟩
                    refine w_pure want_none (y_pickT (v := .bool _) rfl rfl rfl rfl) rfl ?_
                    refine w_pure want_none (y_assign (v := .bool _) rfl rfl) rfl ?_
                    refine w_nil ?_
                    refine q_then (hK129 _ _ ?_)
                    refine w_ret ?_
                    refine q_ret (l := [.tmp 6]) (vs := [_]) rfl ⟨⟨rfl, show _ = (.bool _ : Value) from rfl⟩, trivial⟩ ?_
                    exact ⟨rfl, hs134.drop.drop.tail⟩
                  ·
                    exfalso; simp at h131
          ·
            try simp only [Bool.not_eq_true', Bool.not_eq_false', decide_eq_true_eq, decide_eq_false_iff_not, Int.not_lt, Int.not_le] at h75
            refine w_skipop rfl rfl rfl ?_
            refine w_skipop rfl rfl rfl ?_
            refine w_pure (want_yes rfl rfl rfl) (y_pickF (v := _) rfl rfl rfl rfl) rfl ?_
            refine w_pure (want_yes rfl rfl rfl) (y_move (v := .bool _) rfl rfl) rfl ?_
            refine w_skipop rfl rfl rfl ?_
            refine w_skipop rfl rfl rfl ?_
            refine w_skipop rfl rfl rfl ?_
            refine w_skipop rfl rfl rfl ?_
            refine w_skipop rfl rfl rfl ?_
            refine w_skipop rfl rfl rfl ?_
            refine w_skipop rfl rfl rfl ?_
            refine w_skipop' rfl rfl rfl ?_
            refine w_skipop' rfl rfl rfl ?_
            refine w_skipop' rfl rfl rfl ?_
            refine w_skipop' rfl rfl rfl ?_
            refine w_skipop' rfl rfl rfl ?_
            refine w_skipop rfl rfl rfl ?_
            refine w_pure (want_yes rfl rfl rfl) (y_pickF (v := _) rfl rfl rfl rfl) rfl ?_
            refine w_pure want_none (y_pickF (v := .bool _) rfl rfl rfl rfl) rfl ?_
            refine w_nil ?_
            refine q_then (hK69 _ _ ?_)
            refine w_condF rfl rfl ?_
            refine w_skip ?_
            refine q_then (hK67 _ _ ?_)
            refine w_seq (fun K136 hK135 => ?_)
            refine w_region ?_
            refine w_pure want_none (y_loadN (vs := [_, _, _, _]) Try.isAgg26 Try.sizeOf26 hs73.drop rfl rfl hbx3) rfl ?_
            refine w_call want_none Try.call47 rfl rfl rfl rfl (c47 p _ _ ha.cons.app hok hs73) ?_
            rintro _ w138 ⟨BD, vd, ad, cd, rfl, hsd, hed, hs139⟩
            replace hs139 := (show St _ _ (BD ++ (B2 ++ (_ :: F))) from hs139)
            have hsm := do_small hok
            refine w_pure want_none (y_assign (v := .slice _ _ _) rfl rfl) rfl ?_
            refine w_nil ?_
            refine q_then (hK135 _ _ ?_)
            refine w_seq (fun K141 hK140 => ?_)
            refine w_region ?_
            refine w_pure want_none (y_assign (v := _) rfl rfl) rfl ?_
            refine w_nil ?_
            refine q_then (hK140 _ _ ?_)
            refine w_seq (fun K143 hK142 => ?_)
            refine w_seq (fun K145 hK144 => ?_)
            refine w_region ?_
            refine w_pure want_none (y_assign (v := _) rfl rfl) rfl ?_
            refine w_nil ?_
            refine q_then (hK144 _ _ ?_)
            refine w_block ?_
            refine w_loop [15, 16, 97, 98, 99, 100, 101, 102, 103, 104, 105, 106, 107, 108, 109, 110, 111, 112, 113, 114] [15, 16] (fun kk vs0 w => ∃ (i : Nat) (m : Bool), m = (((doC p).take i).any fun l => decide (l.getD f 0 = heldD p f)) ∧ vs0 = [.bool m, .int .i64 i] ∧ i ≤ (doC p).length ∧ kk = (doC p).length - i ∧ St w0 w (BD ++ (B2 ++ ((b3, blk 26 (p.cells a c)) :: F)))) ((doC p).length) ?_ ?_
            ·
              exact ⟨0, false, rfl, rfl, by omega, by omega, hs139⟩
            ·
              intro k vs μ w148 hI K147 hN146
              obtain ⟨i, m, hm, rfl, hia, rfl, hs⟩ := hI
              refine w_seq (fun K150 hK149 => ?_)
              refine w_seq (fun K152 hK151 => ?_)
              refine w_region ?_
              refine w_pure want_none (y_move (v := .int _ _) rfl rfl) rfl ?_
              refine w_pure want_none (y_move (v := .slice _ _ _) rfl rfl) rfl ?_
              refine w_pure want_none (y_lenS Try.underlying62 rfl rfl) rfl ?_
              refine w_pure want_none (y_lss rfl rfl rfl rfl) rfl ?_
              refine w_nil ?_
              refine q_then (hK151 _ _ ?_)
              refine w_cond rfl rfl (fun h153 => ?_) (fun h153 => ?_)
              ·
                try simp only [Bool.not_eq_true', Bool.not_eq_false', decide_eq_true_eq, decide_eq_false_iff_not, Int.not_lt, Int.not_le] at h153
                refine w_skip ?_
                refine q_then (hK149 _ _ ?_)
                refine w_seq (fun K155 hK154 => ?_)
                refine w_block ?_
                have hi2 : i < (doC p).length := by omega
                obtain ⟨bx2, ox2, b3, c3, rfl, hy, hsy, hny⟩ := el_at hsd hed hi2
                have hln := do_len (List.getElem_mem hi2)
                have hfi : f < ((doC p)[i]).length := by omega
                obtain ⟨bl, ol, rfl, hz⟩ := sl_ints hsy hfi
                have hgf : ((doC p)[i])[f] = ((doC p)[i]).getD f 0 := by simp [List.getD, hfi]
                rw [hgf] at hz
                refine w_region ?_
                refine w_pure want_none (y_move (v := .bool _) rfl rfl) rfl ?_
                refine w_pure want_none (y_move (v := .bool _) rfl rfl) rfl ?_
                refine w_split (fun h156 => ?_) (fun h156 => ?_)
                ·
                  try simp only [Bool.not_eq_true', Bool.not_eq_false', decide_eq_true_eq, decide_eq_false_iff_not, Int.not_lt, Int.not_le] at h156
                  refine w_skipop rfl rfl rfl ?_
                  refine w_skipop rfl rfl rfl ?_
                  refine w_skipop rfl rfl rfl ?_
                  refine w_skipop rfl rfl rfl ?_
                  refine w_skipop rfl rfl rfl ?_
                  refine w_skipop rfl rfl rfl ?_
                  refine w_skipop rfl rfl rfl ?_
                  refine w_skipop rfl rfl rfl ?_
                  refine w_skipop rfl rfl rfl ?_
                  refine w_pure want_none (y_pickT (v := _) rfl rfl rfl rfl) rfl ?_
                  refine w_pure want_none (y_assign (v := .bool _) rfl rfl) rfl ?_
                  refine w_nil ?_
                  refine q_blk_normal ?_
                  refine q_then (hK154 _ _ ?_)
                  refine w_region ?_
                  refine w_pure want_none (y_move (v := .int _ _) rfl rfl) rfl ?_
                  refine w_pure want_none (y_add rfl rfl rfl rfl (by omega) (by omega)) rfl ?_
                  refine w_pure want_none (y_assign (v := .int _ _) rfl rfl) rfl ?_
                  refine w_nil ?_
                  refine q_then (hN146 _ _ (Nx.intro ((doC p).length - (i + 1)) (by omega) (by repeat (first | exact agree_mix | refine agree_upd rfl ?_ | refine agree_updL rfl ?_ _ | refine agree_mixin rfl ?_)) ?_))
                  exact ⟨i + 1, _, (by rw [any_snoc hi2, ← hm]; simp [h13, h25, h58, h74, h75, h153, h156]), rfl, by omega, rfl, hs⟩
                ·
                  try simp only [Bool.not_eq_true', Bool.not_eq_false', decide_eq_true_eq, decide_eq_false_iff_not, Int.not_lt, Int.not_le] at h156
                  refine w_pure (want_yes rfl rfl rfl) (y_move (v := .slice _ _ _) rfl rfl) rfl ?_
                  refine w_pure (want_yes rfl rfl rfl) (y_move (v := .int _ _) rfl rfl) rfl ?_
                  refine w_pure (want_yes rfl rfl rfl) (y_indexS Try.underlying62 Try.sizeOf27 rfl rfl rfl rfl (i := _) rfl (by omega)) rfl ?_
                  refine w_pure (want_yes rfl rfl rfl) (y_load1 Try.isAgg27 hs rfl rfl hy) rfl ?_
                  refine w_pure (want_yes rfl rfl rfl) (y_move (v := .int _ _) rfl rfl) rfl ?_
                  refine w_pure (want_yes rfl rfl rfl) (y_indexS Try.underlying27 Try.sizeOf3 rfl rfl rfl rfl (i := _) rfl (by omega)) rfl ?_
                  refine w_pure (want_yes rfl rfl rfl) (y_load1 Try.isAgg3 hs rfl rfl hz) rfl ?_
                  refine w_pure (want_yes rfl rfl rfl) (y_move (v := .int _ _) rfl rfl) rfl ?_
                  refine w_pure (want_yes rfl rfl rfl) (y_eql rfl rfl rfl rfl) rfl ?_
                  refine w_pure want_none (y_pickF (v := .bool _) rfl rfl rfl rfl) rfl ?_
                  refine w_pure want_none (y_assign (v := .bool _) rfl rfl) rfl ?_
                  refine w_nil ?_
                  refine q_blk_normal ?_
                  refine q_then (hK154 _ _ ?_)
                  refine w_region ?_
                  refine w_pure want_none (y_move (v := .int _ _) rfl rfl) rfl ?_
                  refine w_pure want_none (y_add rfl rfl rfl rfl (by omega) (by omega)) rfl ?_
                  refine w_pure want_none (y_assign (v := .int _ _) rfl rfl) rfl ?_
                  refine w_nil ?_
                  refine q_then (hN146 _ _ (Nx.intro ((doC p).length - (i + 1)) (by omega) (by repeat (first | exact agree_mix | refine agree_upd rfl ?_ | refine agree_updL rfl ?_ _ | refine agree_mixin rfl ?_)) ?_))
                  exact ⟨i + 1, _, (by rw [any_snoc hi2, ← hm]; simp [h13, h25, h58, h74, h75, h153, h156]), rfl, by omega, rfl, hs⟩
              ·
                try simp only [Bool.not_eq_true', Bool.not_eq_false', decide_eq_true_eq, decide_eq_false_iff_not, Int.not_lt, Int.not_le] at h153
                refine w_exit ?_
                refine q_then_exit ?_
                refine q_then_exit ?_
                refine q_blk_this ?_
                refine q_then (hK142 _ _ ?_)
                refine w_seq (fun K158 hK157 => ?_)
                rw [List.take_of_length_le (by omega), hmt (by assumption)] at hm
                subst hm
                refine w_region ?_
                refine w_pure want_none (y_move (v := .bool _) rfl rfl) rfl ?_
                refine w_pure want_none (y_move (v := .bool _) rfl rfl) rfl ?_
                refine w_split (fun h159 => ?_) (fun h159 => ?_)
                ·
                  try simp only [Bool.not_eq_true', Bool.not_eq_false', decide_eq_true_eq, decide_eq_false_iff_not, Int.not_lt, Int.not_le] at h159
                  refine w_call (want_yes rfl rfl rfl) Try.call23 rfl rfl rfl rfl (c23 hs) ?_
                  rintro _ w161 ⟨rfl, hs162⟩
                  refine w_pure want_none (y_pickT (v := .bool _) rfl rfl rfl rfl) rfl ?_
                  refine w_pure want_none (y_assign (v := .bool _) rfl rfl) rfl ?_
                  refine w_nil ?_
                  refine q_then (hK157 _ _ ?_)
                  refine w_ret ?_
                  refine q_ret (l := [.tmp 6]) (vs := [_]) rfl ⟨⟨rfl, show _ = (.bool _ : Value) from rfl⟩, trivial⟩ ?_
                  exact ⟨rfl, hs162.drop.drop.tail⟩
                ·
                  exfalso; simp at h159

end Go.Proofs
