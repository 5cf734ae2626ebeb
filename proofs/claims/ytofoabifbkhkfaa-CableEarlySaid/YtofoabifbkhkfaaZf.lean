/- Walks of this seat, printed by gen.py over the engine: what each function returns, in whatever world. No conditions but those of each contract. -/
import Derived.Test.YtofoabifbkhkfaaZc
import Derived.Test.YtofoabifbkhkfaaCSpec15
set_option linter.unusedVariables false
set_option linter.unusedSimpArgs false
set_option maxRecDepth 20000
namespace Go.Proofs
open Go.Rt
attribute [local irreducible] WL WC Con Yd At Ats Sl Agree DW

theorem c10 {w0 w : World} {F : List (Nat × Obj)} (p : Port) (a : Option Addr) (c : Nat) (hl3 : p.farms.length ≤ 9223372036854775807) (hc : p.farms.length ≤ c) (ha : Sl w0 F a 6 (rows p.farms)) (hnm : ∀ f ∈ p.farms, f.name.size ≤ 9223372036854775807)  (hs : St w0 w F) :
  Con Try.prog 10 [.agg (p.cells a c).toArray] w fun v w' => v = .bool true ∧ St w0 w' F := by
  refine con_of_wc (n := 155) Try.func10 rfl rfl (Nat.le_of_ble_eq_true rfl) ?_
  obtain ⟨e1, e2, e3, hee⟩ : ∃ e1 e2 e3, earlyD p = (e1, e2, e3) := ⟨_, _, _, rfl⟩
  refine w_seq (fun K2 hK1 => ?_)
  refine w_region ?_
  refine w_box (v := .agg #[.int _ _, .int _ _, .int _ _, .slice _ _ _]) (cs := [_, _, _, _]) want_none rfl rfl rfl hs (fun b3 w4 hs5 => ?_)
  refine w_pure want_none (y_assign (v := _) rfl rfl) rfl ?_
  refine w_nil ?_
  refine q_then (hK1 _ _ ?_)
  refine w_seq (fun K7 hK6 => ?_)
  have hbx1 : Ats w0 ((b3, blk 26 (p.cells a c)) :: F) b3 0 (p.cells a c) := ats_own (i := 0) (vs := (p.cells a c)) rfl rfl
  refine w_region ?_
  refine w_pure want_none (y_loadN (vs := [_, _, _, _]) Try.isAgg26 Try.sizeOf26 hs5 rfl rfl hbx1) rfl ?_
  refine w_call want_none Try.call31 rfl rfl rfl rfl (Con.mono (R' := fun v w' => v = .tuple #[.int .i64 e1, .int .i64 e2, .int .i64 e3] ∧ St w0 w' ((b3, blk 26 (p.cells a c)) :: F)) (c31 p _ _ (by omega) (by omega) ha.cons hnm hs5) (fun v w' h => by rw [hee] at h; exact h)) ?_
  rintro _ w9 ⟨rfl, hs10⟩
  refine w_pure want_none (y_move (v := .tuple _) rfl rfl) rfl ?_
  refine w_pure want_none (y_extract (v := .int _ _) rfl rfl rfl) rfl ?_
  refine w_pure want_none (y_extract (v := .int _ _) rfl rfl rfl) rfl ?_
  refine w_pure want_none (y_extract (v := .int _ _) rfl rfl rfl) rfl ?_
  refine w_pure want_none (y_assign (v := .int _ _) rfl rfl) rfl ?_
  refine w_pure want_none (y_assign (v := .int _ _) rfl rfl) rfl ?_
  refine w_pure want_none (y_assign (v := .int _ _) rfl rfl) rfl ?_
  refine w_nil ?_
  refine q_then (hK6 _ _ ?_)
  refine w_seq (fun K12 hK11 => ?_)
  refine w_seq (fun K14 hK13 => ?_)
  refine w_region ?_
  refine w_pure want_none (y_loadN (vs := [_, _, _, _]) Try.isAgg26 Try.sizeOf26 hs10 rfl rfl hbx1) rfl ?_
  refine w_call want_none Try.call37 rfl rfl rfl rfl (c37 p _ _ (by omega) (by omega) ha.cons hnm hs10) ?_
  rintro _ w16 ⟨rfl, hs17⟩
  refine w_pure want_none (y_not rfl rfl) rfl ?_
  refine w_nil ?_
  refine q_then (hK13 _ _ ?_)
  refine w_cond rfl rfl (fun h18 => ?_) (fun h18 => ?_)
  ·
    try simp only [Bool.not_eq_true', Bool.not_eq_false', decide_eq_true_eq, decide_eq_false_iff_not, Int.not_lt, Int.not_le] at h18
    refine w_seq (fun K20 hK19 => ?_)
    have hz := early_e1 (p := p) (by assumption)
    rw [hee] at hz
    simp only [Prod.mk.injEq] at hz
    refine w_region ?_
    refine w_pure want_none (y_move (v := .int _ _) rfl rfl) rfl ?_
    refine w_pure want_none (y_neq rfl rfl rfl rfl) rfl ?_
    refine w_pure want_none (y_move (v := .bool _) rfl rfl) rfl ?_
    refine w_split (fun h21 => ?_) (fun h21 => ?_)
    ·
      try simp only [Bool.not_eq_true', Bool.not_eq_false', decide_eq_true_eq, decide_eq_false_iff_not, Int.not_lt, Int.not_le] at h21
      refine w_pure (want_yes rfl rfl rfl) (y_move (v := .int _ _) rfl rfl) rfl ?_
      refine w_pure (want_yes rfl rfl rfl) (y_eql rfl rfl rfl rfl) rfl ?_
      refine w_pure want_none (y_pickT (v := .bool _) rfl rfl rfl rfl) rfl ?_
      refine w_pure want_none (y_move (v := .bool _) rfl rfl) rfl ?_
      refine w_split (fun h22 => ?_) (fun h22 => ?_)
      ·
        try simp only [Bool.not_eq_true', Bool.not_eq_false', decide_eq_true_eq, decide_eq_false_iff_not, Int.not_lt, Int.not_le] at h22
        refine w_pure (want_yes rfl rfl rfl) (y_move (v := .int _ _) rfl rfl) rfl ?_
        refine w_pure (want_yes rfl rfl rfl) (y_eql rfl rfl rfl rfl) rfl ?_
        refine w_pure want_none (y_pickT (v := .bool _) rfl rfl rfl rfl) rfl ?_
        refine w_pure want_none (y_move (v := .bool _) rfl rfl) rfl ?_
        refine w_split (fun h23 => ?_) (fun h23 => ?_)
        ·
          try simp only [Bool.not_eq_true', Bool.not_eq_false', decide_eq_true_eq, decide_eq_false_iff_not, Int.not_lt, Int.not_le] at h23
          refine w_call (want_yes rfl rfl rfl) Try.call23 rfl rfl rfl rfl (c23 hs17) ?_
          rintro _ w25 ⟨rfl, hs26⟩
          refine w_pure want_none (y_pickT (v := .bool _) rfl rfl rfl rfl) rfl ?_
          refine w_pure want_none (y_assign (v := .bool _) rfl rfl) rfl ?_
          refine w_nil ?_
          refine q_then (hK19 _ _ ?_)
          refine w_ret ?_
          refine q_then_ret ?_
          refine q_ret (l := [.tmp 2]) (vs := [_]) rfl ⟨⟨rfl, show _ = (.bool _ : Value) from rfl⟩, trivial⟩ ?_
          exact ⟨rfl, hs26.tail⟩
        ·
          exfalso
          try simp only [Bool.not_eq_true', Bool.not_eq_false', decide_eq_true_eq, decide_eq_false_iff_not, Int.not_lt, Int.not_le] at h23
          omega
      ·
        exfalso
        try simp only [Bool.not_eq_true', Bool.not_eq_false', decide_eq_true_eq, decide_eq_false_iff_not, Int.not_lt, Int.not_le] at h22
        omega
    ·
      exfalso
      try simp only [Bool.not_eq_true', Bool.not_eq_false', decide_eq_true_eq, decide_eq_false_iff_not, Int.not_lt, Int.not_le] at h21
      omega
  ·
    try simp only [Bool.not_eq_true', Bool.not_eq_false', decide_eq_true_eq, decide_eq_false_iff_not, Int.not_lt, Int.not_le] at h18
    refine w_skip ?_
    refine q_then (hK11 _ _ ?_)
    refine w_seq (fun K28 hK27 => ?_)
    have hck : (check p).2.2 = 0 := by assumption
    have hok := check_ok hck
    have hlen3 := hok.len
    have hpe := plan_e09 hck
    refine w_region ?_
    refine w_pure want_none (y_loadN (vs := [_, _, _, _]) Try.isAgg26 Try.sizeOf26 hs17 rfl rfl hbx1) rfl ?_
    refine w_call want_none Try.call26 rfl rfl rfl rfl (c26 p _ _ (by omega) (by omega) ha.cons hnm hs17) ?_
    rintro _ w30 ⟨B1, aq_B1, cq_B1, rfl, h_B1, hs31⟩
    replace hs31 := (show St _ _ (B1 ++ (_ :: F)) from hs31)
    refine w_pure want_none (y_move (v := .tuple _) rfl rfl) rfl ?_
    refine w_pure want_none (y_extract (v := .slice _ _ _) rfl rfl rfl) rfl ?_
    refine w_pure want_none (y_extract (v := .int _ _) rfl rfl rfl) rfl ?_
    refine w_pure want_none (y_extract (v := .int _ _) rfl rfl rfl) rfl ?_
    refine w_pure want_none (y_assign (v := .slice _ _ _) rfl rfl) rfl ?_
    refine w_pure want_none (y_assign (v := .int _ _) rfl rfl) rfl ?_
    refine w_pure want_none (y_assign (v := .int _ _) rfl rfl) rfl ?_
    refine w_nil ?_
    refine q_then (hK27 _ _ ?_)
    refine w_seq (fun K33 hK32 => ?_)
    refine w_seq (fun K35 hK34 => ?_)
    refine w_region ?_
    refine w_pure want_none (y_move (v := .int _ _) rfl rfl) rfl ?_
    refine w_pure want_none (y_eql rfl rfl rfl rfl) rfl ?_
    refine w_nil ?_
    refine q_then (hK34 _ _ ?_)
    refine w_cond rfl rfl (fun h36 => ?_) (fun h36 => ?_)
    ·
      try simp only [Bool.not_eq_true', Bool.not_eq_false', decide_eq_true_eq, decide_eq_false_iff_not, Int.not_lt, Int.not_le] at h36
      refine w_seq (fun K38 hK37 => ?_)
      have hz := early_e2 hck (by have := (plan_iff hck).1 (by assumption); cases hd : doC p with | nil => rw [hd] at this; simp at this | cons x l => rfl)
      rw [hee] at hz
      simp only [Prod.mk.injEq] at hz
      refine w_region ?_
      refine w_pure want_none (y_move (v := .int _ _) rfl rfl) rfl ?_
      refine w_pure want_none (y_eql rfl rfl rfl rfl) rfl ?_
      refine w_pure want_none (y_move (v := .bool _) rfl rfl) rfl ?_
      refine w_split (fun h39 => ?_) (fun h39 => ?_)
      ·
        try simp only [Bool.not_eq_true', Bool.not_eq_false', decide_eq_true_eq, decide_eq_false_iff_not, Int.not_lt, Int.not_le] at h39
        refine w_pure (want_yes rfl rfl rfl) (y_move (v := .int _ _) rfl rfl) rfl ?_
        refine w_pure (want_yes rfl rfl rfl) (y_eql rfl rfl rfl rfl) rfl ?_
        refine w_pure want_none (y_pickT (v := .bool _) rfl rfl rfl rfl) rfl ?_
        refine w_pure want_none (y_move (v := .bool _) rfl rfl) rfl ?_
        refine w_split (fun h40 => ?_) (fun h40 => ?_)
        ·
          try simp only [Bool.not_eq_true', Bool.not_eq_false', decide_eq_true_eq, decide_eq_false_iff_not, Int.not_lt, Int.not_le] at h40
          refine w_pure (want_yes rfl rfl rfl) (y_move (v := .int _ _) rfl rfl) rfl ?_
          refine w_pure (want_yes rfl rfl rfl) (y_eql rfl rfl rfl rfl) rfl ?_
          refine w_pure want_none (y_pickT (v := .bool _) rfl rfl rfl rfl) rfl ?_
          refine w_pure want_none (y_move (v := .bool _) rfl rfl) rfl ?_
          refine w_split (fun h41 => ?_) (fun h41 => ?_)
          ·
            try simp only [Bool.not_eq_true', Bool.not_eq_false', decide_eq_true_eq, decide_eq_false_iff_not, Int.not_lt, Int.not_le] at h41
            refine w_call (want_yes rfl rfl rfl) Try.call23 rfl rfl rfl rfl (c23 hs31) ?_
            rintro _ w43 ⟨rfl, hs44⟩
            refine w_pure want_none (y_pickT (v := .bool _) rfl rfl rfl rfl) rfl ?_
            refine w_pure want_none (y_assign (v := .bool _) rfl rfl) rfl ?_
            refine w_nil ?_
            refine q_then (hK37 _ _ ?_)
            refine w_ret ?_
            refine q_then_ret ?_
            refine q_ret (l := [.tmp 2]) (vs := [_]) rfl ⟨⟨rfl, show _ = (.bool _ : Value) from rfl⟩, trivial⟩ ?_
            exact ⟨rfl, hs44.drop.tail⟩
          ·
            exfalso
            try simp only [Bool.not_eq_true', Bool.not_eq_false', decide_eq_true_eq, decide_eq_false_iff_not, Int.not_lt, Int.not_le] at h41
            omega
        ·
          exfalso
          try simp only [Bool.not_eq_true', Bool.not_eq_false', decide_eq_true_eq, decide_eq_false_iff_not, Int.not_lt, Int.not_le] at h40
          omega
      ·
        exfalso
        try simp only [Bool.not_eq_true', Bool.not_eq_false', decide_eq_true_eq, decide_eq_false_iff_not, Int.not_lt, Int.not_le] at h39
        omega
    ·
      try simp only [Bool.not_eq_true', Bool.not_eq_false', decide_eq_true_eq, decide_eq_false_iff_not, Int.not_lt, Int.not_le] at h36
      refine w_skip ?_
      refine q_then (hK32 _ _ ?_)
      refine w_seq (fun K46 hK45 => ?_)
      have hdn := (plan_not hck (by assumption)).1
      refine w_region ?_
      refine w_pure want_none (y_fieldAddr (o := 3) (i := 2) Try.underlying26 rfl Try.sizeOf24 rfl rfl rfl) rfl ?_
      refine w_pure want_none (y_load1 Try.isAgg24 hs31.drop rfl rfl (show Ats _ _ _ _ [_] from Ats.part hbx1 3 1)) rfl ?_
      refine w_pure want_none (y_lenS Try.underlying24 rfl rfl) rfl ?_
      refine w_pure want_none (y_assign (v := .int _ _) rfl rfl) rfl ?_
      refine w_nil ?_
      refine q_then (hK45 _ _ ?_)
      refine w_seq (fun K48 hK47 => ?_)
      refine w_seq (fun K50 hK49 => ?_)
      refine w_region ?_
      refine w_pure want_none (y_move (v := .int _ _) rfl rfl) rfl ?_
      refine w_pure want_none (y_eql rfl rfl rfl rfl) rfl ?_
      refine w_nil ?_
      refine q_then (hK49 _ _ ?_)
      refine w_cond rfl rfl (fun h51 => ?_) (fun h51 => ?_)
      ·
        try simp only [Bool.not_eq_true', Bool.not_eq_false', decide_eq_true_eq, decide_eq_false_iff_not, Int.not_lt, Int.not_le] at h51
        refine w_seq (fun K53 hK52 => ?_)
        refine w_seq (fun K55 hK54 => ?_)
        rcases early_spec hck hdn hee with ⟨_, f, hf, rfl, hj1, hj2, hk1, hk2, hbe⟩ | ⟨h9, _⟩
        rotate_left
        · exfalso; omega
        have hfo := hok.farm _ (List.getElem_mem hf)
        unfold Farm.Ok at hfo
        obtain ⟨bx, ox, rfl, hx⟩ := sl_farm ha hf
        refine w_region ?_
        refine w_pure want_none (y_move (v := .int _ _) rfl rfl) rfl ?_
        refine w_pure want_none (y_fieldAddr (o := 3) (i := 2) Try.underlying26 rfl Try.sizeOf24 rfl rfl rfl) rfl ?_
        refine w_pure want_none (y_load1 Try.isAgg24 hs31.drop rfl rfl (show Ats _ _ _ _ [_] from Ats.part hbx1 3 1)) rfl ?_
        refine w_pure want_none (y_lenS Try.underlying24 rfl rfl) rfl ?_
        refine w_pure want_none (y_sub rfl rfl rfl rfl (by omega) (by omega)) rfl ?_
        refine w_call want_none Try.call45 rfl rfl rfl rfl (c45 _ _ _ hs31) ?_
        rintro _ w57 ⟨rfl, hs58⟩
        refine w_pure want_none (y_not rfl rfl) rfl ?_
        refine w_pure want_none (y_move (v := .bool _) rfl rfl) rfl ?_
        refine w_split (fun h59 => ?_) (fun h59 => ?_)
        ·
          exfalso
          try simp only [Bool.not_eq_true', Bool.not_eq_false', decide_eq_true_eq, decide_eq_false_iff_not, Int.not_lt, Int.not_le] at h59
          omega
        ·
          try simp only [Bool.not_eq_true', Bool.not_eq_false', decide_eq_true_eq, decide_eq_false_iff_not, Int.not_lt, Int.not_le] at h59
          refine w_pure (want_yes rfl rfl rfl) (y_move (v := .int _ _) rfl rfl) rfl ?_
          refine w_pure (want_yes rfl rfl rfl) (y_fieldAddr (o := 3) (i := 2) Try.underlying26 rfl Try.sizeOf24 rfl rfl rfl) rfl ?_
          refine w_pure (want_yes rfl rfl rfl) (y_load1 Try.isAgg24 hs58.drop rfl rfl (show Ats _ _ _ _ [_] from Ats.part hbx1 3 1)) rfl ?_
          refine w_pure (want_yes rfl rfl rfl) (y_move (v := .int _ _) rfl rfl) rfl ?_
          refine w_pure (want_yes rfl rfl rfl) (y_indexS Try.underlying24 Try.sizeOf60 rfl rfl rfl rfl (i := _) rfl (by omega)) rfl ?_
          refine w_pure (want_yes rfl rfl rfl) (y_fieldAddr (o := 3) (i := 3) Try.underlying60 rfl Try.sizeOf3 rfl rfl rfl) rfl ?_
          refine w_pure (want_yes rfl rfl rfl) (y_load1 Try.isAgg3 hs58.drop.tail rfl rfl (show Ats _ _ _ _ [_] from Ats.part hx 3 1)) rfl ?_
          refine w_pure (want_yes rfl rfl rfl) (y_sub rfl rfl rfl rfl (by omega) (by omega)) rfl ?_
          refine w_call (want_yes rfl rfl rfl) Try.call45 rfl rfl rfl rfl (c45 _ _ _ hs58) ?_
          rintro _ w61 ⟨rfl, hs62⟩
          refine w_pure (want_yes rfl rfl rfl) (y_not rfl rfl) rfl ?_
          refine w_pure want_none (y_pickF (v := .bool _) rfl rfl rfl rfl) rfl ?_
          refine w_nil ?_
          refine q_then (hK54 _ _ ?_)
          refine w_cond rfl rfl (fun h63 => ?_) (fun h63 => ?_)
          ·
            exfalso
            try simp only [Bool.not_eq_true', Bool.not_eq_false', decide_eq_true_eq, decide_eq_false_iff_not, Int.not_lt, Int.not_le] at h63
            omega
          ·
            try simp only [Bool.not_eq_true', Bool.not_eq_false', decide_eq_true_eq, decide_eq_false_iff_not, Int.not_lt, Int.not_le] at h63
            refine w_skip ?_
            refine q_then (hK52 _ _ ?_)
            refine w_seq (fun K65 hK64 => ?_)
            refine w_draw [] [(0, 1), (1, 0), (2, 0), (3, 1), (4, 0), (5, 0), (6, 0), (7, 1), (8, 0), (9, 0), (10, 2), (11, 2), (12, 0), (13, 0), (14, 0), (15, 0), (16, 0), (17, 0), (18, 0)] Try_mo (by kernel_rfl) hs62 (fun w66 hs67 => ?_)
            refine d_take rfl want_none rfl hs67 (fun _ hq => (y_loadN (vs := [_, _, _, _]) Try.isAgg26 Try.sizeOf26 hq.drop rfl rfl hbx1)) ?_
            refine d_any rfl want_none rfl (fun _ => (y_move (v := .int _ _) rfl rfl)) ?_
            refine d_any rfl want_none rfl (fun _ => (y_fieldAddr (o := 3) (i := 2) Try.underlying26 rfl Try.sizeOf24 rfl rfl rfl)) ?_
            refine d_take rfl want_none rfl hs67 (fun _ hq => (y_load1 Try.isAgg24 hq.drop rfl rfl (show Ats _ _ _ _ [_] from Ats.part hbx1 3 1))) ?_
            refine d_any rfl want_none rfl (fun _ => (y_move (v := .int _ _) rfl rfl)) ?_
            refine d_any rfl want_none rfl (fun _ => (y_indexS Try.underlying24 Try.sizeOf60 rfl rfl rfl rfl (i := _) rfl (by omega))) ?_
            refine d_any rfl want_none rfl (fun _ => (y_fieldAddr (o := 3) (i := 3) Try.underlying60 rfl Try.sizeOf3 rfl rfl rfl)) ?_
            refine d_take rfl want_none rfl hs67 (fun _ hq => (y_load1 Try.isAgg3 hq.drop.tail rfl rfl (show Ats _ _ _ _ [_] from Ats.part hx 3 1))) ?_
            refine d_any rfl want_none rfl (fun _ => (y_move (v := .int _ _) rfl rfl)) ?_
            refine d_any rfl want_none rfl (fun _ => (y_add rfl rfl rfl rfl (by omega) (by omega))) ?_
            refine d_eff rfl ?_
            refine w_call want_none Try.call46 rfl rfl rfl rfl (c46 p _ _ ha.cons.app (by omega) f hf (p.farms[f].keep + e2) hs67) ?_
            rintro _ w69 ⟨BK, a_BK, c_BK, rfl, h_BK, hs70, hc_BK⟩
            replace hs70 := (show St _ _ (BK ++ (B1 ++ (_ :: F))) from hs70)
            refine w_nil ?_
            refine qn ⟨hs70.drop, ?_⟩
            refine d_eff rfl ?_
            refine w_call want_none Try.call26 rfl rfl rfl rfl (c26 (kept p f (p.farms[f].keep + e2)) _ _ (by rw [kept_len]; omega) (by rw [kept_len]; omega) h_BK (kept_names hnm _ _) hs70) ?_
            rintro _ w72 ⟨BP, aq_BP, cq_BP, rfl, h_BP, hs73⟩
            replace hs73 := (show St _ _ (BP ++ (BK ++ (B1 ++ (_ :: F)))) from hs73)
            refine w_nil ?_
            refine qn ⟨hs73.drop.drop, ?_⟩
            refine d_any rfl want_none rfl (fun _ => (y_move (v := .tuple _) rfl rfl)) ?_
            refine d_any rfl want_none rfl (fun _ => (y_extract (v := .slice _ _ _) rfl rfl rfl)) ?_
            refine d_any rfl want_none rfl (fun _ => (y_extract (v := .int _ _) rfl rfl rfl)) ?_
            refine d_any rfl want_none rfl (fun _ => (y_extract (v := .int _ _) rfl rfl rfl)) ?_
            refine d_any rfl want_none rfl (fun _ => (y_assign (v := .slice _ _ _) rfl rfl)) ?_
            refine d_any rfl want_none rfl (fun _ => (y_assign (v := .int _ _) rfl rfl)) ?_
            refine d_any rfl want_none rfl (fun _ => (y_assign (v := .int _ _) rfl rfl)) ?_
            refine d_nil ?_
            refine q_then (hK64 _ _ ?_)
            refine w_seq (fun K75 hK74 => ?_)
            refine w_draw [] [(0, 1), (1, 0), (2, 0), (3, 1), (4, 0), (5, 0), (6, 0), (7, 1), (8, 0), (9, 0), (10, 0), (11, 2), (12, 2), (13, 0), (14, 0), (15, 0), (16, 0), (17, 0), (18, 0), (19, 0)] Try_mo (by kernel_rfl) hs73 (fun w76 hs77 => ?_)
            refine d_take rfl want_none rfl hs77 (fun _ hq => (y_loadN (vs := [_, _, _, _]) Try.isAgg26 Try.sizeOf26 hq.drop.drop.drop rfl rfl hbx1)) ?_
            refine d_any rfl want_none rfl (fun _ => (y_move (v := .int _ _) rfl rfl)) ?_
            refine d_any rfl want_none rfl (fun _ => (y_fieldAddr (o := 3) (i := 2) Try.underlying26 rfl Try.sizeOf24 rfl rfl rfl)) ?_
            refine d_take rfl want_none rfl hs77 (fun _ hq => (y_load1 Try.isAgg24 hq.drop.drop.drop rfl rfl (show Ats _ _ _ _ [_] from Ats.part hbx1 3 1))) ?_
            refine d_any rfl want_none rfl (fun _ => (y_move (v := .int _ _) rfl rfl)) ?_
            refine d_any rfl want_none rfl (fun _ => (y_indexS Try.underlying24 Try.sizeOf60 rfl rfl rfl rfl (i := _) rfl (by omega))) ?_
            refine d_any rfl want_none rfl (fun _ => (y_fieldAddr (o := 3) (i := 3) Try.underlying60 rfl Try.sizeOf3 rfl rfl rfl)) ?_
            refine d_take rfl want_none rfl hs77 (fun _ hq => (y_load1 Try.isAgg3 hq.drop.drop.drop.tail rfl rfl (show Ats _ _ _ _ [_] from Ats.part hx 3 1))) ?_
            refine d_any rfl want_none rfl (fun _ => (y_move (v := .int _ _) rfl rfl)) ?_
            refine d_any rfl want_none rfl (fun _ => (y_add rfl rfl rfl rfl (by omega) (by omega))) ?_
            refine d_any rfl want_none rfl (fun _ => (y_sub rfl rfl rfl rfl (by omega) (by omega))) ?_
            refine d_eff rfl ?_
            refine w_call want_none Try.call46 rfl rfl rfl rfl (c46 p _ _ ha.cons.app.app.app (by omega) f hf (p.farms[f].keep + e2 - 1) hs77) ?_
            rintro _ w79 ⟨BK2, a_BK2, c_BK2, rfl, h_BK2, hs80, hc_BK2⟩
            replace hs80 := (show St _ _ (BK2 ++ (BP ++ (BK ++ (B1 ++ (_ :: F))))) from hs80)
            refine w_nil ?_
            refine qn ⟨hs80.drop, ?_⟩
            refine d_eff rfl ?_
            refine w_call want_none Try.call26 rfl rfl rfl rfl (c26 (kept p f (p.farms[f].keep + e2 - 1)) _ _ (by rw [kept_len]; omega) (by rw [kept_len]; omega) h_BK2 (kept_names hnm _ _) hs80) ?_
            rintro _ w82 ⟨BP2, aq_BP2, cq_BP2, rfl, h_BP2, hs83⟩
            replace hs83 := (show St _ _ (BP2 ++ (BK2 ++ (BP ++ (BK ++ (B1 ++ (_ :: F)))))) from hs83)
            refine w_nil ?_
            refine qn ⟨hs83.drop.drop, ?_⟩
            refine d_any rfl want_none rfl (fun _ => (y_move (v := .tuple _) rfl rfl)) ?_
            refine d_any rfl want_none rfl (fun _ => (y_extract (v := .slice _ _ _) rfl rfl rfl)) ?_
            refine d_any rfl want_none rfl (fun _ => (y_extract (v := .int _ _) rfl rfl rfl)) ?_
            refine d_any rfl want_none rfl (fun _ => (y_extract (v := .int _ _) rfl rfl rfl)) ?_
            refine d_any rfl want_none rfl (fun _ => (y_assign (v := .slice _ _ _) rfl rfl)) ?_
            refine d_any rfl want_none rfl (fun _ => (y_assign (v := .int _ _) rfl rfl)) ?_
            refine d_any rfl want_none rfl (fun _ => (y_assign (v := .int _ _) rfl rfl)) ?_
            refine d_nil ?_
            refine q_then (hK74 _ _ ?_)
            refine w_seq (fun K85 hK84 => ?_)
            refine w_seq (fun K87 hK86 => ?_)
            refine w_region ?_
            refine w_pure want_none (y_move (v := .int _ _) rfl rfl) rfl ?_
            refine w_pure want_none (y_neq rfl rfl rfl rfl) rfl ?_
            refine w_pure want_none (y_move (v := .bool _) rfl rfl) rfl ?_
            refine w_split (fun h88 => ?_) (fun h88 => ?_)
            ·
              exfalso
              try simp only [Bool.not_eq_true', Bool.not_eq_false', decide_eq_true_eq, decide_eq_false_iff_not, Int.not_lt, Int.not_le] at h88
              omega
            ·
              try simp only [Bool.not_eq_true', Bool.not_eq_false', decide_eq_true_eq, decide_eq_false_iff_not, Int.not_lt, Int.not_le] at h88
              refine w_pure (want_yes rfl rfl rfl) (y_move (v := .int _ _) rfl rfl) rfl ?_
              refine w_pure (want_yes rfl rfl rfl) (y_neq rfl rfl rfl rfl) rfl ?_
              refine w_pure want_none (y_pickF (v := .bool _) rfl rfl rfl rfl) rfl ?_
              refine w_nil ?_
              refine q_then (hK86 _ _ ?_)
              refine w_cond rfl rfl (fun h89 => ?_) (fun h89 => ?_)
              ·
                exfalso
                try simp only [Bool.not_eq_true', Bool.not_eq_false', decide_eq_true_eq, decide_eq_false_iff_not, Int.not_lt, Int.not_le] at h89
                omega
              ·
                try simp only [Bool.not_eq_true', Bool.not_eq_false', decide_eq_true_eq, decide_eq_false_iff_not, Int.not_lt, Int.not_le] at h89
                refine w_skip ?_
                refine q_then (hK84 _ _ ?_)
                refine w_region ?_
                refine w_pure want_none (y_move (v := .int _ _) rfl rfl) rfl ?_
                refine w_pure want_none (y_assign (v := .int _ _) rfl rfl) rfl ?_
                refine w_nil ?_
                refine q_then (hK47 _ _ ?_)
                refine w_seq (fun K91 hK90 => ?_)
                refine w_seq (fun K93 hK92 => ?_)
                refine w_region ?_
                refine w_pure want_none (y_assign (v := _) rfl rfl) rfl ?_
                refine w_nil ?_
                refine q_then (hK92 _ _ ?_)
                refine w_block ?_
                refine w_loop [2, 16, 17, 18, 19, 127, 128, 129, 130, 131, 132, 133, 134, 135, 136, 137, 138, 139, 140, 141] [16] (fun kk vs w => ∃ (i : Nat), vs = [.int .i64 i] ∧ i ≤ f ∧ kk = f - i ∧ St w0 w ((b3, blk 26 (p.cells (some ⟨bx, ox, none⟩) c)) :: F)) (f) ?_ ?_
                ·
                  exact ⟨0, rfl, by omega, by omega, hs83.drop.drop.drop.drop.drop⟩
                ·
                  intro k vs μ w96 hI K95 hN94
                  obtain ⟨i, rfl, hia, rfl, hs⟩ := hI
                  refine w_seq (fun K98 hK97 => ?_)
                  refine w_seq (fun K100 hK99 => ?_)
                  refine w_region ?_
                  refine w_pure want_none (y_move (v := .int _ _) rfl rfl) rfl ?_
                  refine w_pure want_none (y_move (v := .int _ _) rfl rfl) rfl ?_
                  refine w_pure want_none (y_lss rfl rfl rfl rfl) rfl ?_
                  refine w_nil ?_
                  refine q_then (hK99 _ _ ?_)
                  refine w_cond rfl rfl (fun h101 => ?_) (fun h101 => ?_)
                  ·
                    try simp only [Bool.not_eq_true', Bool.not_eq_false', decide_eq_true_eq, decide_eq_false_iff_not, Int.not_lt, Int.not_le] at h101
                    refine w_skip ?_
                    refine q_then (hK97 _ _ ?_)
                    refine w_seq (fun K103 hK102 => ?_)
                    refine w_block ?_
                    refine w_seq (fun K105 hK104 => ?_)
                    have hi2 : i < p.farms.length := by omega
                    have hfi := hok.farm _ (List.getElem_mem hi2)
                    unfold Farm.Ok at hfi
                    have hbi := hbe i (by omega)
                    refine w_region ?_
                    refine w_pure want_none (y_loadN (vs := [_, _, _, _]) Try.isAgg26 Try.sizeOf26 hs rfl rfl hbx1) rfl ?_
                    refine w_pure want_none (y_move (v := .int _ _) rfl rfl) rfl ?_
                    refine w_call want_none Try.call46 rfl rfl rfl rfl (c46 p _ _ ha.cons (by omega) i hi2 9 hs) ?_
                    rintro _ w107 ⟨BK3, a_BK3, c_BK3, rfl, h_BK3, hs108, hc_BK3⟩
                    replace hs108 := (show St _ _ (BK3 ++ (_ :: F)) from hs108)
                    refine w_call want_none Try.call26 rfl rfl rfl rfl (c26 (kept p i 9) _ _ (by rw [kept_len]; omega) (by rw [kept_len]; omega) h_BK3 (kept_names hnm _ _) hs108) ?_
                    rintro _ w110 ⟨BP3, aq_BP3, cq_BP3, rfl, h_BP3, hs111⟩
                    replace hs111 := (show St _ _ (BP3 ++ (BK3 ++ (_ :: F))) from hs111)
                    refine w_pure want_none (y_move (v := .tuple _) rfl rfl) rfl ?_
                    refine w_pure want_none (y_extract (v := .slice _ _ _) rfl rfl rfl) rfl ?_
                    refine w_pure want_none (y_extract (v := .int _ _) rfl rfl rfl) rfl ?_
                    refine w_pure want_none (y_extract (v := .int _ _) rfl rfl rfl) rfl ?_
                    refine w_pure want_none (y_assign (v := .slice _ _ _) rfl rfl) rfl ?_
                    refine w_pure want_none (y_assign (v := .int _ _) rfl rfl) rfl ?_
                    refine w_pure want_none (y_assign (v := .int _ _) rfl rfl) rfl ?_
                    refine w_nil ?_
                    refine q_then (hK104 _ _ ?_)
                    refine w_seq (fun K113 hK112 => ?_)
                    refine w_region ?_
                    refine w_pure want_none (y_move (v := .int _ _) rfl rfl) rfl ?_
                    refine w_pure want_none (y_neq rfl rfl rfl rfl) rfl ?_
                    refine w_nil ?_
                    refine q_then (hK112 _ _ ?_)
                    refine w_cond rfl rfl (fun h114 => ?_) (fun h114 => ?_)
                    ·
                      exfalso
                      try simp only [Bool.not_eq_true', Bool.not_eq_false', decide_eq_true_eq, decide_eq_false_iff_not, Int.not_lt, Int.not_le] at h114
                      omega
                    ·
                      try simp only [Bool.not_eq_true', Bool.not_eq_false', decide_eq_true_eq, decide_eq_false_iff_not, Int.not_lt, Int.not_le] at h114
                      refine w_skip ?_
                      refine q_blk_normal ?_
                      refine q_then (hK102 _ _ ?_)
                      refine w_region ?_
                      refine w_pure want_none (y_move (v := .int _ _) rfl rfl) rfl ?_
                      refine w_pure want_none (y_add rfl rfl rfl rfl (by omega) (by omega)) rfl ?_
                      refine w_pure want_none (y_assign (v := .int _ _) rfl rfl) rfl ?_
                      refine w_nil ?_
                      refine q_then (hN94 _ _ (Nx.intro (f - (i + 1)) (by omega) (by repeat (first | exact agree_mix | refine agree_upd rfl ?_ | refine agree_updL rfl ?_ _ | refine agree_mixin rfl ?_)) ?_))
                      exact ⟨i + 1, rfl, by omega, rfl, hs111.drop.drop⟩
                  ·
                    try simp only [Bool.not_eq_true', Bool.not_eq_false', decide_eq_true_eq, decide_eq_false_iff_not, Int.not_lt, Int.not_le] at h101
                    refine w_exit ?_
                    refine q_then_exit ?_
                    refine q_then_exit ?_
                    refine q_blk_this ?_
                    refine q_then (hK90 _ _ ?_)
                    refine w_seq (fun K116 hK115 => ?_)
                    refine w_region ?_
                    refine w_pure want_none (y_move (v := .int _ _) rfl rfl) rfl ?_
                    refine w_pure want_none (y_eql rfl rfl rfl rfl) rfl ?_
                    refine w_pure want_none (y_move (v := .bool _) rfl rfl) rfl ?_
                    refine w_split (fun h117 => ?_) (fun h117 => ?_)
                    ·
                      try simp only [Bool.not_eq_true', Bool.not_eq_false', decide_eq_true_eq, decide_eq_false_iff_not, Int.not_lt, Int.not_le] at h117
                      refine w_skipop rfl rfl rfl ?_
                      refine w_skipop rfl rfl rfl ?_
                      refine w_pure want_none (y_pickT (v := _) rfl rfl rfl rfl) rfl ?_
                      refine w_pure want_none (y_move (v := .bool _) rfl rfl) rfl ?_
                      refine w_pure (want_yes rfl rfl rfl) (y_move (v := .int _ _) rfl rfl) rfl ?_
                      refine w_pure (want_yes rfl rfl rfl) (y_eql rfl rfl rfl rfl) rfl ?_
                      refine w_pure want_none (y_pickT (v := .bool _) rfl rfl rfl rfl) rfl ?_
                      refine w_pure want_none (y_move (v := .bool _) rfl rfl) rfl ?_
                      refine w_split (fun h118 => ?_) (fun h118 => ?_)
                      ·
                        try simp only [Bool.not_eq_true', Bool.not_eq_false', decide_eq_true_eq, decide_eq_false_iff_not, Int.not_lt, Int.not_le] at h118
                        refine w_call (want_yes rfl rfl rfl) Try.call23 rfl rfl rfl rfl (c23 hs) ?_
                        rintro _ w120 ⟨rfl, hs121⟩
                        refine w_pure want_none (y_pickT (v := .bool _) rfl rfl rfl rfl) rfl ?_
                        refine w_pure want_none (y_assign (v := .bool _) rfl rfl) rfl ?_
                        refine w_nil ?_
                        refine q_then (hK115 _ _ ?_)
                        refine w_ret ?_
                        refine q_ret (l := [.tmp 2]) (vs := [_]) rfl ⟨⟨rfl, show _ = (.bool _ : Value) from rfl⟩, trivial⟩ ?_
                        exact ⟨rfl, hs121.tail⟩
                      ·
                        exfalso
                        try simp only [Bool.not_eq_true', Bool.not_eq_false', decide_eq_true_eq, decide_eq_false_iff_not, Int.not_lt, Int.not_le] at h118
                        omega
                    ·
                      exfalso
                      try simp only [Bool.not_eq_true', Bool.not_eq_false', decide_eq_true_eq, decide_eq_false_iff_not, Int.not_lt, Int.not_le] at h117
                      omega
      ·
        try simp only [Bool.not_eq_true', Bool.not_eq_false', decide_eq_true_eq, decide_eq_false_iff_not, Int.not_lt, Int.not_le] at h51
        refine w_skip ?_
        refine q_then (hK47 _ _ ?_)
        refine w_seq (fun K123 hK122 => ?_)
        refine w_seq (fun K125 hK124 => ?_)
        have hbe : ∀ j, j < p.farms.length → planE (kept p j 9) = 9 := by
          rcases early_spec hck hdn hee with ⟨h0, _⟩ | ⟨_, h9⟩
          · exfalso; omega
          · exact h9
        have he9 : e3 = 9 := by
          rcases early_spec hck hdn hee with ⟨h0, _⟩ | ⟨h9, _⟩
          · exfalso; omega
          · exact h9
        refine w_region ?_
        refine w_pure want_none (y_assign (v := _) rfl rfl) rfl ?_
        refine w_nil ?_
        refine q_then (hK124 _ _ ?_)
        refine w_block ?_
        refine w_loop [2, 16, 17, 18, 19, 127, 128, 129, 130, 131, 132, 133, 134, 135, 136, 137, 138, 139, 140, 141] [16] (fun kk vs w => ∃ (i : Nat), vs = [.int .i64 i] ∧ i ≤ p.farms.length ∧ kk = p.farms.length - i ∧ St w0 w ((b3, blk 26 (p.cells a c)) :: F)) (p.farms.length) ?_ ?_
        ·
          exact ⟨0, rfl, by omega, by omega, hs31.drop⟩
        ·
          intro k vs μ w128 hI K127 hN126
          obtain ⟨i, rfl, hia, rfl, hs⟩ := hI
          refine w_seq (fun K130 hK129 => ?_)
          refine w_seq (fun K132 hK131 => ?_)
          refine w_region ?_
          refine w_pure want_none (y_move (v := .int _ _) rfl rfl) rfl ?_
          refine w_pure want_none (y_move (v := .int _ _) rfl rfl) rfl ?_
          refine w_pure want_none (y_lss rfl rfl rfl rfl) rfl ?_
          refine w_nil ?_
          refine q_then (hK131 _ _ ?_)
          refine w_cond rfl rfl (fun h133 => ?_) (fun h133 => ?_)
          ·
            try simp only [Bool.not_eq_true', Bool.not_eq_false', decide_eq_true_eq, decide_eq_false_iff_not, Int.not_lt, Int.not_le] at h133
            refine w_skip ?_
            refine q_then (hK129 _ _ ?_)
            refine w_seq (fun K135 hK134 => ?_)
            refine w_block ?_
            refine w_seq (fun K137 hK136 => ?_)
            have hi2 : i < p.farms.length := by omega
            have hfi := hok.farm _ (List.getElem_mem hi2)
            unfold Farm.Ok at hfi
            have hbi := hbe i (by omega)
            refine w_region ?_
            refine w_pure want_none (y_loadN (vs := [_, _, _, _]) Try.isAgg26 Try.sizeOf26 hs rfl rfl hbx1) rfl ?_
            refine w_pure want_none (y_move (v := .int _ _) rfl rfl) rfl ?_
            refine w_call want_none Try.call46 rfl rfl rfl rfl (c46 p _ _ ha.cons (by omega) i hi2 9 hs) ?_
            rintro _ w139 ⟨BK3, a_BK3, c_BK3, rfl, h_BK3, hs140, hc_BK3⟩
            replace hs140 := (show St _ _ (BK3 ++ (_ :: F)) from hs140)
            refine w_call want_none Try.call26 rfl rfl rfl rfl (c26 (kept p i 9) _ _ (by rw [kept_len]; omega) (by rw [kept_len]; omega) h_BK3 (kept_names hnm _ _) hs140) ?_
            rintro _ w142 ⟨BP3, aq_BP3, cq_BP3, rfl, h_BP3, hs143⟩
            replace hs143 := (show St _ _ (BP3 ++ (BK3 ++ (_ :: F))) from hs143)
            refine w_pure want_none (y_move (v := .tuple _) rfl rfl) rfl ?_
            refine w_pure want_none (y_extract (v := .slice _ _ _) rfl rfl rfl) rfl ?_
            refine w_pure want_none (y_extract (v := .int _ _) rfl rfl rfl) rfl ?_
            refine w_pure want_none (y_extract (v := .int _ _) rfl rfl rfl) rfl ?_
            refine w_pure want_none (y_assign (v := .slice _ _ _) rfl rfl) rfl ?_
            refine w_pure want_none (y_assign (v := .int _ _) rfl rfl) rfl ?_
            refine w_pure want_none (y_assign (v := .int _ _) rfl rfl) rfl ?_
            refine w_nil ?_
            refine q_then (hK136 _ _ ?_)
            refine w_seq (fun K145 hK144 => ?_)
            refine w_region ?_
            refine w_pure want_none (y_move (v := .int _ _) rfl rfl) rfl ?_
            refine w_pure want_none (y_neq rfl rfl rfl rfl) rfl ?_
            refine w_nil ?_
            refine q_then (hK144 _ _ ?_)
            refine w_cond rfl rfl (fun h146 => ?_) (fun h146 => ?_)
            ·
              exfalso
              try simp only [Bool.not_eq_true', Bool.not_eq_false', decide_eq_true_eq, decide_eq_false_iff_not, Int.not_lt, Int.not_le] at h146
              omega
            ·
              try simp only [Bool.not_eq_true', Bool.not_eq_false', decide_eq_true_eq, decide_eq_false_iff_not, Int.not_lt, Int.not_le] at h146
              refine w_skip ?_
              refine q_blk_normal ?_
              refine q_then (hK134 _ _ ?_)
              refine w_region ?_
              refine w_pure want_none (y_move (v := .int _ _) rfl rfl) rfl ?_
              refine w_pure want_none (y_add rfl rfl rfl rfl (by omega) (by omega)) rfl ?_
              refine w_pure want_none (y_assign (v := .int _ _) rfl rfl) rfl ?_
              refine w_nil ?_
              refine q_then (hN126 _ _ (Nx.intro (p.farms.length - (i + 1)) (by omega) (by repeat (first | exact agree_mix | refine agree_upd rfl ?_ | refine agree_updL rfl ?_ _ | refine agree_mixin rfl ?_)) ?_))
              exact ⟨i + 1, rfl, by omega, rfl, hs143.drop.drop⟩
          ·
            try simp only [Bool.not_eq_true', Bool.not_eq_false', decide_eq_true_eq, decide_eq_false_iff_not, Int.not_lt, Int.not_le] at h133
            refine w_exit ?_
            refine q_then_exit ?_
            refine q_then_exit ?_
            refine q_blk_this ?_
            refine q_then (hK122 _ _ ?_)
            refine w_seq (fun K148 hK147 => ?_)
            refine w_region ?_
            refine w_pure want_none (y_move (v := .int _ _) rfl rfl) rfl ?_
            refine w_pure want_none (y_eql rfl rfl rfl rfl) rfl ?_
            refine w_pure want_none (y_move (v := .bool _) rfl rfl) rfl ?_
            refine w_split (fun h149 => ?_) (fun h149 => ?_)
            ·
              exfalso
              try simp only [Bool.not_eq_true', Bool.not_eq_false', decide_eq_true_eq, decide_eq_false_iff_not, Int.not_lt, Int.not_le] at h149
              omega
            ·
              try simp only [Bool.not_eq_true', Bool.not_eq_false', decide_eq_true_eq, decide_eq_false_iff_not, Int.not_lt, Int.not_le] at h149
              refine w_pure (want_yes rfl rfl rfl) (y_move (v := .int _ _) rfl rfl) rfl ?_
              refine w_pure (want_yes rfl rfl rfl) (y_eql rfl rfl rfl rfl) rfl ?_
              refine w_pure want_none (y_pickF (v := .bool _) rfl rfl rfl rfl) rfl ?_
              refine w_pure want_none (y_move (v := .bool _) rfl rfl) rfl ?_
              refine w_split (fun h150 => ?_) (fun h150 => ?_)
              ·
                try simp only [Bool.not_eq_true', Bool.not_eq_false', decide_eq_true_eq, decide_eq_false_iff_not, Int.not_lt, Int.not_le] at h150
                refine w_pure (want_yes rfl rfl rfl) (y_move (v := .int _ _) rfl rfl) rfl ?_
                refine w_pure (want_yes rfl rfl rfl) (y_eql rfl rfl rfl rfl) rfl ?_
                refine w_pure want_none (y_pickT (v := .bool _) rfl rfl rfl rfl) rfl ?_
                refine w_pure want_none (y_move (v := .bool _) rfl rfl) rfl ?_
                refine w_split (fun h151 => ?_) (fun h151 => ?_)
                ·
                  try simp only [Bool.not_eq_true', Bool.not_eq_false', decide_eq_true_eq, decide_eq_false_iff_not, Int.not_lt, Int.not_le] at h151
                  refine w_call (want_yes rfl rfl rfl) Try.call23 rfl rfl rfl rfl (c23 hs) ?_
                  rintro _ w153 ⟨rfl, hs154⟩
                  refine w_pure want_none (y_pickT (v := .bool _) rfl rfl rfl rfl) rfl ?_
                  refine w_pure want_none (y_assign (v := .bool _) rfl rfl) rfl ?_
                  refine w_nil ?_
                  refine q_then (hK147 _ _ ?_)
                  refine w_ret ?_
                  refine q_ret (l := [.tmp 2]) (vs := [_]) rfl ⟨⟨rfl, show _ = (.bool _ : Value) from rfl⟩, trivial⟩ ?_
                  exact ⟨rfl, hs154.tail⟩
                ·
                  exfalso
                  try simp only [Bool.not_eq_true', Bool.not_eq_false', decide_eq_true_eq, decide_eq_false_iff_not, Int.not_lt, Int.not_le] at h151
                  omega
              ·
                exfalso
                try simp only [Bool.not_eq_true', Bool.not_eq_false', decide_eq_true_eq, decide_eq_false_iff_not, Int.not_lt, Int.not_le] at h150
                omega

end Go.Proofs
