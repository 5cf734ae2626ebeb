/- Walks of this seat, printed by gen.py over the engine: what each function returns, in whatever world. No conditions but those of each contract. -/
import Derived.Test.YtofoabifbkhkfaaD
set_option linter.unusedVariables false
set_option linter.unusedSimpArgs false
set_option maxRecDepth 20000
namespace Go.Proofs
open Go.Rt
attribute [local irreducible] WL WC Con Yd At Ats Sl Agree DW
theorem Try_E_fb1  (w : World) : (Instr.buildSlice 24 0 [].toArray).run Try.prog w = .ok (.slice (some ⟨w.heap.size, 0, none⟩) 0 0) (w.alloc (Go.Rt.blk 60 [])) := by kernel_rfl
theorem Try_info60 : Try.prog.info? 60 = some Try.t60 := by kernel_rfl
theorem Try_E_fb3 (x0 : ByteArray) (w : World) : (Instr.buildSlice 78 1 [(0, .string x0)].toArray).run Try.prog w = .ok (.slice (some ⟨w.heap.size, 0, none⟩) 1 1) (w.alloc (Go.Rt.blk 9 [.string x0])) := by kernel_rfl
theorem Try_info9 : Try.prog.info? 9 = some Try.t9 := by kernel_rfl
theorem rows_one (l : List Farm) : ∀ row ∈ rows l, ∀ u ∈ row, u.oneCell' = true := by
  intro row hr u hu
  obtain ⟨f, _, rfl⟩ := List.mem_map.1 hr
  simp only [Farm.cells, List.mem_cons, List.not_mem_nil, or_false] at hu
  rcases hu with rfl | rfl | rfl | rfl | rfl | rfl <;> rfl
theorem c65 {w0 w : World} {F : List (Nat × Obj)} (a : Option Addr) (c : Nat) (l : List Farm) (hl3 : l.length ≤ 1000000) (hc : l.length ≤ c) (ha : Sl w0 F a 6 (rows l)) (hs : St w0 w F) :
  Con Try.prog 65 [.slice a l.length c] w fun v w' => ∃ B', Rt.Own v 60 6 l.length (rows l).flatten B' ∧ St w0 w' (B' ++ F) := by
  refine con_of_wc (n := 8) Try.func65 rfl rfl (Nat.le_of_ble_eq_true rfl) ?_
  refine w_seq (fun K2 hK1 => ?_)
  refine w_region ?_
  refine w_pure want_none (y_assign (v := _) rfl rfl) rfl ?_
  refine w_nil ?_
  refine q_then (hK1 _ _ ?_)
  refine w_seq (fun K4 hK3 => ?_)
  refine w_seq (fun K6 hK5 => ?_)
  refine w_region ?_
  refine w_pure want_none (y_move (v := .slice _ _ _) rfl rfl) rfl ?_
  refine w_pure want_none (y_sliceNil Try.underlying24 rfl rfl rfl rfl) rfl ?_
  refine w_nil ?_
  refine q_then (hK5 _ _ ?_)
  refine w_cond rfl rfl (fun h7 => ?_) (fun h7 => ?_)
  ·
    try simp only [Bool.not_eq_true', Bool.not_eq_false', decide_eq_true_eq, decide_eq_false_iff_not, Int.not_lt, Int.not_le] at h7
    refine w_seq (fun K9 hK8 => ?_)
    refine w_region ?_
    refine w_pure want_none (y_assign (v := _) rfl rfl) rfl ?_
    refine w_nil ?_
    refine q_then (hK8 _ _ ?_)
    refine w_ret ?_
    refine q_then_ret ?_
    refine q_ret (l := [.tmp 2]) (vs := [_]) rfl ⟨⟨rfl, show _ = (.slice _ _ _ : Value) from rfl⟩, trivial⟩ ?_
    have hr := sl_none (L := F) (w0 := w0) (by have : a = none := (by simpa using ‹a.isNone = true›); subst this; exact ha)
    have hl0 : l = [] := by simpa [rows] using hr
    subst hl0
    exact ⟨[], own_nil 60 6, hs⟩
  ·
    try simp only [Bool.not_eq_true', Bool.not_eq_false', decide_eq_true_eq, decide_eq_false_iff_not, Int.not_lt, Int.not_le] at h7
    refine w_skip ?_
    refine q_then (hK3 _ _ ?_)
    refine w_seq (fun K11 hK10 => ?_)
    refine w_region ?_
    refine w_bslice (ps := []) (pv := []) (cs := []) want_none rfl rfl (fun w => Try_E_fb1  w) hs (fun b12 w13 hs14 => ?_)
    refine w_pure want_none (y_move (v := .slice _ _ _) rfl rfl) rfl ?_
    refine w_append (X := ([])) (B := [_]) (rows := rows l) (sz := 6) (bytes := 56) want_none Try.underlying24 Try_info60 rfl rfl rfl rfl rfl rfl rfl rfl rfl hs14 own_made ha.cons (by simp [rows]) (fun h => by subst h; simp at h7) (rows_one l) (by simp only [maxLen]; omega) (by omega) (fun v15 w16 B17 ho18 hs19 => ?_)
    replace hs19 := (show St _ _ (B17 ++ (F)) from hs19)
    refine w_pure want_none (y_assign (v := v15) rfl rfl) rfl ?_
    refine w_nil ?_
    refine q_then (hK10 _ _ ?_)
    refine w_ret ?_
    refine q_ret (l := [.tmp 2]) (vs := [_]) rfl ⟨⟨rfl, show _ = (v15 : Value) from rfl⟩, trivial⟩ ?_
    rw [Nat.zero_add, List.nil_append] at ho18
    exact ⟨_, ho18, hs19⟩

theorem ends_cases (a b lo hi : Int) : (ends a b lo hi = 7 ∧ (out lo hi a || out lo hi b) = true) ∨ (ends a b lo hi = 2 ∧ (out lo hi a || out lo hi b) = false ∧ b < a) ∨ (ends a b lo hi = 0 ∧ (out lo hi a || out lo hi b) = false ∧ ¬ b < a) := by
  unfold ends
  cases h : (out lo hi a || out lo hi b)
  · by_cases h2 : b < a
    · exact .inr (.inl ⟨by simp [h2], rfl, h2⟩)
    · exact .inr (.inr ⟨by simp [h2], rfl, h2⟩)
  · exact .inl ⟨rfl, rfl⟩
theorem out_iff (lo hi n : Int) : out lo hi n = false ↔ lo ≤ n ∧ n ≤ hi := by unfold out; rw [Bool.or_eq_false_iff]; simp
theorem chk_no1 (p : Port) (h : ¬ (1 ≤ p.hold ∧ p.hold ≤ 200) ∨ ends p.clo p.chi 0 10 = 7) : check p = (1, 0, 7) := by
  unfold check
  rw [if_pos]
  rw [Bool.or_eq_true]
  rcases h with h | h
  · left
    cases ho : out 1 200 p.hold
    · exact absurd ((out_iff _ _ _).1 ho) h
    · rfl
  · rcases ends_cases p.clo p.chi 0 10 with ⟨_, h2⟩ | ⟨h1, _⟩ | ⟨h1, _⟩
    · exact .inr h2
    · omega
    · omega
theorem chk_no2 (p : Port) (h : 1 ≤ p.hold ∧ p.hold ≤ 200) (h1 : ends p.clo p.chi 0 10 ≠ 7) (h2 : ends p.clo p.chi 0 10 ≠ 0) : check p = (1, 0, ends p.clo p.chi 0 10) := by
  unfold check
  rcases ends_cases p.clo p.chi 0 10 with ⟨h3, _⟩ | ⟨h3, h4, h5⟩ | ⟨h3, _⟩
  · exact absurd h3 h1
  · rw [(out_iff _ _ _).2 h, h4, h3, if_neg (by simp), if_pos h5]
  · exact absurd h3 h2
theorem chk_go (p : Port) (h : 1 ≤ p.hold ∧ p.hold ≤ 200) (h2 : ends p.clo p.chi 0 10 = 0) : check p = if 3 < p.farms.length then (2, 0, 3) else farmsErr [] 0 p.farms := by
  unfold check
  rcases ends_cases p.clo p.chi 0 10 with ⟨h3, _⟩ | ⟨h3, h4, h5⟩ | ⟨h3, h4, h5⟩
  · omega
  · omega
  · rw [(out_iff _ _ _).2 h, h4, if_neg (by simp), if_neg h5]
theorem chk_no3 (p : Port) (h : 1 ≤ p.hold ∧ p.hold ≤ 200) (h2 : ends p.clo p.chi 0 10 = 0) (h3 : 3 < p.farms.length) : check p = (2, 0, 3) := by rw [chk_go p h h2, if_pos h3]
theorem chk_ok (p : Port) (h : 1 ≤ p.hold ∧ p.hold ≤ 200) (h2 : ends p.clo p.chi 0 10 = 0) (h3 : p.farms.length ≤ 3) : check p = farmsErr [] 0 p.farms := by rw [chk_go p h h2, if_neg (by omega)]
theorem fErr_ref (b : List ByteArray) (f : Farm) : fErr b f = if (if nmOk f.name = false then (6 : Int) else if has b f.name then 5 else 0) = 0 then farmErr f else (if nmOk f.name = false then 6 else if has b f.name then 5 else 0) := by
  unfold fErr
  cases nmOk f.name <;> cases has b f.name <;> simp
theorem names_snoc {l : List Farm} {i : Nat} (hi : i < l.length) : (names (l.take i)).map Value.string ++ [Value.string l[i].name] = (names (l.take (i + 1))).map Value.string := by
  rw [List.take_succ_eq_append_getElem hi]; simp only [names, List.map_append, List.map_cons, List.map_nil]
theorem names_len {l : List Farm} {i : Nat} (hi : i ≤ l.length) : (names (l.take i)).length = i := by simp [names]; omega
theorem c17 {w0 w : World} {F : List (Nat × Obj)} (p : Port) (a : Option Addr) (c : Nat) (hl3 : p.farms.length ≤ 9223372036854775807) (hc : p.farms.length ≤ c) (ha : Sl w0 F a 6 (rows p.farms)) (hnm : ∀ f ∈ p.farms, f.name.size ≤ 9223372036854775807) (hs : St w0 w F) :
  Con Try.prog 17 [.agg (p.cells a c).toArray] w fun v w' => v = .tuple #[.int .i64 (check p).1, .int .i64 (check p).2.1, .int .i64 (check p).2.2] ∧ St w0 w' F := by
  refine con_of_wc (n := 63) Try.func17 rfl rfl (Nat.le_of_ble_eq_true rfl) ?_
  refine w_seq (fun K2 hK1 => ?_)
  refine w_region ?_
  refine w_box (v := .agg #[.int _ _, .int _ _, .int _ _, .slice _ _ _]) (cs := [_, _, _, _]) want_none rfl rfl rfl hs (fun b3 w4 hs5 => ?_)
  refine w_pure want_none (y_assign (v := _) rfl rfl) rfl ?_
  refine w_pure want_none (y_assign (v := _) rfl rfl) rfl ?_
  refine w_pure want_none (y_assign (v := _) rfl rfl) rfl ?_
  refine w_nil ?_
  refine q_then (hK1 _ _ ?_)
  refine w_seq (fun K7 hK6 => ?_)
  refine w_region ?_
  refine w_pure want_none (y_fieldAddr (o := 1) (i := 1) Try.underlying26 rfl Try.sizeOf23 rfl rfl rfl) rfl ?_
  refine w_pure want_none (y_loadN (vs := [_, _]) Try.isAgg23 Try.sizeOf23 hs5 rfl rfl (ats_own (i := 0) (vs := [_, _]) rfl rfl)) rfl ?_
  refine w_call want_none Try.call50 rfl rfl rfl rfl (c50 _ _ _ _ hs5) ?_
  rintro _ w9 ⟨rfl, hs10⟩
  refine w_pure want_none (y_assign (v := .int _ _) rfl rfl) rfl ?_
  refine w_nil ?_
  refine q_then (hK6 _ _ ?_)
  refine w_seq (fun K12 hK11 => ?_)
  refine w_seq (fun K14 hK13 => ?_)
  refine w_region ?_
  refine w_pure want_none (y_fieldAddr (o := 0) (i := 0) Try.underlying26 rfl Try.sizeOf3 rfl rfl rfl) rfl ?_
  refine w_pure want_none (y_load1 Try.isAgg3 hs10 rfl rfl (ats_own (i := 0) (vs := [_]) rfl rfl)) rfl ?_
  refine w_call want_none Try.call45 rfl rfl rfl rfl (c45 _ _ _ hs10) ?_
  rintro _ w16 ⟨rfl, hs17⟩
  refine w_pure want_none (y_not rfl rfl) rfl ?_
  refine w_pure want_none (y_move (v := .bool _) rfl rfl) rfl ?_
  refine w_split (fun h18 => ?_) (fun h18 => ?_)
  ·
    try simp only [Bool.not_eq_true', Bool.not_eq_false', decide_eq_true_eq, decide_eq_false_iff_not, Int.not_lt, Int.not_le] at h18
    refine w_skipop rfl rfl rfl ?_
    refine w_skipop rfl rfl rfl ?_
    refine w_pure want_none (y_pickT (v := _) rfl rfl rfl rfl) rfl ?_
    refine w_nil ?_
    refine q_then (hK13 _ _ ?_)
    refine w_condT rfl rfl ?_
    refine w_seq (fun K20 hK19 => ?_)
    refine w_region ?_
    refine w_pure want_none (y_assign (v := _) rfl rfl) rfl ?_
    refine w_pure want_none (y_assign (v := _) rfl rfl) rfl ?_
    refine w_pure want_none (y_assign (v := _) rfl rfl) rfl ?_
    refine w_nil ?_
    refine q_then (hK19 _ _ ?_)
    refine w_ret ?_
    refine q_then_ret ?_
    refine q_ret (l := [.tmp 2, .tmp 3, .tmp 4]) (vs := [_, _, _]) rfl ⟨⟨rfl, show _ = (.int _ _ : Value) from rfl⟩, ⟨rfl, show _ = (.int _ _ : Value) from rfl⟩, ⟨rfl, show _ = (.int _ _ : Value) from rfl⟩, trivial⟩ ?_
    first
      | exact ⟨tup3 (hinv.trans (farmsErr_end (by omega) _)), hs17.tail.drop⟩
      | exact ⟨tup3 (chk_no1 p (by omega)), hs17.tail⟩
      | exact ⟨tup3 (chk_no2 p (by assumption) (by assumption) (by assumption)), hs17.tail⟩
      | exact ⟨tup3 (chk_no3 p (by omega) (by omega) (by omega)), hs17.tail⟩
      | contradiction
      | (refine ⟨tup3 (hinv.trans ?_), hs17.tail.tail.drop⟩; have hE := fErr_ref (names (p.farms.take i)) p.farms[i]; rw [if_neg (by assumption)] at hE; rw [farmsErr_stop hi2 (by rw [hE]; assumption), hE])
      | (refine ⟨tup3 (hinv.trans ?_), hs17.tail.tail.drop⟩; have hE := fErr_ref (names (p.farms.take i)) p.farms[i]; rw [if_pos (by assumption)] at hE; rw [farmsErr_stop hi2 (by rw [hE]; assumption), hE])
  ·
    try simp only [Bool.not_eq_true', Bool.not_eq_false', decide_eq_true_eq, decide_eq_false_iff_not, Int.not_lt, Int.not_le] at h18
    refine w_pure (want_yes rfl rfl rfl) (y_move (v := .int _ _) rfl rfl) rfl ?_
    refine w_pure (want_yes rfl rfl rfl) (y_eql rfl rfl rfl rfl) rfl ?_
    refine w_pure want_none (y_pickF (v := .bool _) rfl rfl rfl rfl) rfl ?_
    refine w_nil ?_
    refine q_then (hK13 _ _ ?_)
    refine w_cond rfl rfl (fun h21 => ?_) (fun h21 => ?_)
    ·
      try simp only [Bool.not_eq_true', Bool.not_eq_false', decide_eq_true_eq, decide_eq_false_iff_not, Int.not_lt, Int.not_le] at h21
      refine w_seq (fun K23 hK22 => ?_)
      refine w_region ?_
      refine w_pure want_none (y_assign (v := _) rfl rfl) rfl ?_
      refine w_pure want_none (y_assign (v := _) rfl rfl) rfl ?_
      refine w_pure want_none (y_assign (v := _) rfl rfl) rfl ?_
      refine w_nil ?_
      refine q_then (hK22 _ _ ?_)
      refine w_ret ?_
      refine q_then_ret ?_
      refine q_ret (l := [.tmp 2, .tmp 3, .tmp 4]) (vs := [_, _, _]) rfl ⟨⟨rfl, show _ = (.int _ _ : Value) from rfl⟩, ⟨rfl, show _ = (.int _ _ : Value) from rfl⟩, ⟨rfl, show _ = (.int _ _ : Value) from rfl⟩, trivial⟩ ?_
      first
        | exact ⟨tup3 (hinv.trans (farmsErr_end (by omega) _)), hs17.tail.drop⟩
        | exact ⟨tup3 (chk_no1 p (by omega)), hs17.tail⟩
        | exact ⟨tup3 (chk_no2 p (by assumption) (by assumption) (by assumption)), hs17.tail⟩
        | exact ⟨tup3 (chk_no3 p (by omega) (by omega) (by omega)), hs17.tail⟩
        | contradiction
        | (refine ⟨tup3 (hinv.trans ?_), hs17.tail.tail.drop⟩; have hE := fErr_ref (names (p.farms.take i)) p.farms[i]; rw [if_neg (by assumption)] at hE; rw [farmsErr_stop hi2 (by rw [hE]; assumption), hE])
        | (refine ⟨tup3 (hinv.trans ?_), hs17.tail.tail.drop⟩; have hE := fErr_ref (names (p.farms.take i)) p.farms[i]; rw [if_pos (by assumption)] at hE; rw [farmsErr_stop hi2 (by rw [hE]; assumption), hE])
    ·
      try simp only [Bool.not_eq_true', Bool.not_eq_false', decide_eq_true_eq, decide_eq_false_iff_not, Int.not_lt, Int.not_le] at h21
      refine w_skip ?_
      refine q_then (hK11 _ _ ?_)
      refine w_seq (fun K25 hK24 => ?_)
      refine w_seq (fun K27 hK26 => ?_)
      refine w_region ?_
      refine w_pure want_none (y_move (v := .int _ _) rfl rfl) rfl ?_
      refine w_pure want_none (y_neq rfl rfl rfl rfl) rfl ?_
      refine w_nil ?_
      refine q_then (hK26 _ _ ?_)
      refine w_cond rfl rfl (fun h28 => ?_) (fun h28 => ?_)
      ·
        try simp only [Bool.not_eq_true', Bool.not_eq_false', decide_eq_true_eq, decide_eq_false_iff_not, Int.not_lt, Int.not_le] at h28
        refine w_seq (fun K30 hK29 => ?_)
        refine w_region ?_
        refine w_pure want_none (y_move (v := .int _ _) rfl rfl) rfl ?_
        refine w_pure want_none (y_assign (v := _) rfl rfl) rfl ?_
        refine w_pure want_none (y_assign (v := _) rfl rfl) rfl ?_
        refine w_pure want_none (y_assign (v := .int _ _) rfl rfl) rfl ?_
        refine w_nil ?_
        refine q_then (hK29 _ _ ?_)
        refine w_ret ?_
        refine q_then_ret ?_
        refine q_ret (l := [.tmp 2, .tmp 3, .tmp 4]) (vs := [_, _, _]) rfl ⟨⟨rfl, show _ = (.int _ _ : Value) from rfl⟩, ⟨rfl, show _ = (.int _ _ : Value) from rfl⟩, ⟨rfl, show _ = (.int _ _ : Value) from rfl⟩, trivial⟩ ?_
        first
          | exact ⟨tup3 (hinv.trans (farmsErr_end (by omega) _)), hs17.tail.drop⟩
          | exact ⟨tup3 (chk_no1 p (by omega)), hs17.tail⟩
          | exact ⟨tup3 (chk_no2 p (by assumption) (by assumption) (by assumption)), hs17.tail⟩
          | exact ⟨tup3 (chk_no3 p (by omega) (by omega) (by omega)), hs17.tail⟩
          | contradiction
          | (refine ⟨tup3 (hinv.trans ?_), hs17.tail.tail.drop⟩; have hE := fErr_ref (names (p.farms.take i)) p.farms[i]; rw [if_neg (by assumption)] at hE; rw [farmsErr_stop hi2 (by rw [hE]; assumption), hE])
          | (refine ⟨tup3 (hinv.trans ?_), hs17.tail.tail.drop⟩; have hE := fErr_ref (names (p.farms.take i)) p.farms[i]; rw [if_pos (by assumption)] at hE; rw [farmsErr_stop hi2 (by rw [hE]; assumption), hE])
      ·
        try simp only [Bool.not_eq_true', Bool.not_eq_false', decide_eq_true_eq, decide_eq_false_iff_not, Int.not_lt, Int.not_le] at h28
        refine w_skip ?_
        refine q_then (hK24 _ _ ?_)
        refine w_seq (fun K32 hK31 => ?_)
        refine w_seq (fun K34 hK33 => ?_)
        refine w_region ?_
        refine w_pure want_none (y_fieldAddr (o := 3) (i := 2) Try.underlying26 rfl Try.sizeOf24 rfl rfl rfl) rfl ?_
        refine w_pure want_none (y_load1 Try.isAgg24 hs17 rfl rfl (ats_own (i := 0) (vs := [_]) rfl rfl)) rfl ?_
        refine w_pure want_none (y_lenS Try.underlying24 rfl rfl) rfl ?_
        refine w_pure want_none (y_gtr rfl rfl rfl rfl) rfl ?_
        refine w_nil ?_
        refine q_then (hK33 _ _ ?_)
        refine w_cond rfl rfl (fun h35 => ?_) (fun h35 => ?_)
        ·
          try simp only [Bool.not_eq_true', Bool.not_eq_false', decide_eq_true_eq, decide_eq_false_iff_not, Int.not_lt, Int.not_le] at h35
          refine w_seq (fun K37 hK36 => ?_)
          refine w_region ?_
          refine w_pure want_none (y_assign (v := _) rfl rfl) rfl ?_
          refine w_pure want_none (y_assign (v := _) rfl rfl) rfl ?_
          refine w_pure want_none (y_assign (v := _) rfl rfl) rfl ?_
          refine w_nil ?_
          refine q_then (hK36 _ _ ?_)
          refine w_ret ?_
          refine q_then_ret ?_
          refine q_ret (l := [.tmp 2, .tmp 3, .tmp 4]) (vs := [_, _, _]) rfl ⟨⟨rfl, show _ = (.int _ _ : Value) from rfl⟩, ⟨rfl, show _ = (.int _ _ : Value) from rfl⟩, ⟨rfl, show _ = (.int _ _ : Value) from rfl⟩, trivial⟩ ?_
          first
            | exact ⟨tup3 (hinv.trans (farmsErr_end (by omega) _)), hs17.tail.drop⟩
            | exact ⟨tup3 (chk_no1 p (by omega)), hs17.tail⟩
            | exact ⟨tup3 (chk_no2 p (by assumption) (by assumption) (by assumption)), hs17.tail⟩
            | exact ⟨tup3 (chk_no3 p (by omega) (by omega) (by omega)), hs17.tail⟩
            | contradiction
            | (refine ⟨tup3 (hinv.trans ?_), hs17.tail.tail.drop⟩; have hE := fErr_ref (names (p.farms.take i)) p.farms[i]; rw [if_neg (by assumption)] at hE; rw [farmsErr_stop hi2 (by rw [hE]; assumption), hE])
            | (refine ⟨tup3 (hinv.trans ?_), hs17.tail.tail.drop⟩; have hE := fErr_ref (names (p.farms.take i)) p.farms[i]; rw [if_pos (by assumption)] at hE; rw [farmsErr_stop hi2 (by rw [hE]; assumption), hE])
        ·
          try simp only [Bool.not_eq_true', Bool.not_eq_false', decide_eq_true_eq, decide_eq_false_iff_not, Int.not_lt, Int.not_le] at h35
          refine w_skip ?_
          refine q_then (hK31 _ _ ?_)
          refine w_seq (fun K39 hK38 => ?_)
          refine w_region ?_
          refine w_pure want_none (y_assign (v := _) rfl rfl) rfl ?_
          refine w_nil ?_
          refine q_then (hK38 _ _ ?_)
          refine w_seq (fun K41 hK40 => ?_)
          refine w_seq (fun K43 hK42 => ?_)
          refine w_region ?_
          refine w_pure want_none (y_assign (v := _) rfl rfl) rfl ?_
          refine w_nil ?_
          refine q_then (hK42 _ _ ?_)
          refine w_block ?_
          refine w_loop [2, 3, 4, 6, 7, 8, 27, 28, 29, 30, 31, 32, 33, 34, 35, 36, 37, 38, 39, 40, 41, 42, 43, 44, 45, 46, 47, 48, 49, 50, 51, 52, 53, 54, 55, 56, 57, 58, 59, 60, 61, 62] [6, 7] (fun k vs w => ∃ (i : Nat) (v : Value) (B : List (Nat × Obj)), vs = [v, .int .i64 i] ∧ i ≤ p.farms.length ∧ k = p.farms.length - i ∧ check p = farmsErr (names (p.farms.take i)) (i : Nat) (p.farms.drop i) ∧ Rt.Own v 9 1 i ((names (p.farms.take i)).map Value.string) B ∧ St w0 w ((b3, blk 26 (p.cells a c)) :: (B ++ F))) (p.farms.length) ?_ ?_
          ·
            exact ⟨0, _, [], rfl, by omega, by omega, (chk_ok p (by omega) (by omega) (by omega)), own_nil 9 1, hs17⟩
          ·
            intro k vs μ w46 hI K45 hN44
            obtain ⟨i, v, B, rfl, hia, rfl, hinv, hown, hs⟩ := hI
            refine w_seq (fun K48 hK47 => ?_)
            refine w_seq (fun K50 hK49 => ?_)
            refine w_region ?_
            refine w_pure want_none (y_move (v := .int _ _) rfl rfl) rfl ?_
            refine w_pure want_none (y_fieldAddr (o := 3) (i := 2) Try.underlying26 rfl Try.sizeOf24 rfl rfl rfl) rfl ?_
            refine w_pure want_none (y_load1 Try.isAgg24 hs rfl rfl (ats_own (i := 0) (vs := [_]) rfl rfl)) rfl ?_
            refine w_pure want_none (y_lenS Try.underlying24 rfl rfl) rfl ?_
            refine w_pure want_none (y_lss rfl rfl rfl rfl) rfl ?_
            refine w_nil ?_
            refine q_then (hK49 _ _ ?_)
            refine w_cond rfl rfl (fun h51 => ?_) (fun h51 => ?_)
            ·
              try simp only [Bool.not_eq_true', Bool.not_eq_false', decide_eq_true_eq, decide_eq_false_iff_not, Int.not_lt, Int.not_le] at h51
              refine w_skip ?_
              refine q_then (hK47 _ _ ?_)
              refine w_seq (fun K53 hK52 => ?_)
              refine w_block ?_
              refine w_seq (fun K55 hK54 => ?_)
              have hi2 : i < p.farms.length := by omega
              have hn2 := names_len hia
              obtain ⟨bx, ox, rfl, hx⟩ := sl_farm ha hi2
              obtain ⟨an, cn, rfl, hsn⟩ := own_sl_map (w0 := w0) hown hn2 F
              have hnl : (names (p.farms.take i)).length ≤ 1000000 := by omega
              refine w_region ?_
              refine w_pure want_none (y_fieldAddr (o := 3) (i := 2) Try.underlying26 rfl Try.sizeOf24 rfl rfl rfl) rfl ?_
              refine w_pure want_none (y_load1 Try.isAgg24 hs rfl rfl (ats_own (i := 0) (vs := [_]) rfl rfl)) rfl ?_
              refine w_pure want_none (y_move (v := .int _ _) rfl rfl) rfl ?_
              refine w_pure want_none (y_indexS Try.underlying24 Try.sizeOf60 rfl rfl rfl rfl (i := _) rfl (by omega)) rfl ?_
              refine w_pure want_none (y_fieldAddr (o := 0) (i := 0) Try.underlying60 rfl Try.sizeOf9 rfl rfl rfl) rfl ?_
              refine w_pure want_none (y_load1 Try.isAgg9 hs.tail.drop rfl rfl (show Ats _ _ _ _ [_] from Ats.part hx 0 1)) rfl ?_
              refine w_pure want_none (y_move (v := .slice _ _ _) rfl rfl) rfl ?_
              refine w_call want_none Try.call51 rfl rfl rfl rfl (c51 _ _ _ _ (hnm _ (List.getElem_mem hi2)) (by omega) hsn.cons hs) ?_
              rintro _ w57 ⟨rfl, hs58⟩
              refine w_pure want_none (y_assign (v := .int _ _) rfl rfl) rfl ?_
              refine w_nil ?_
              refine q_then (hK54 _ _ ?_)
              refine w_seq (fun K60 hK59 => ?_)
              refine w_region ?_
              refine w_pure want_none (y_move (v := .slice _ _ _) rfl rfl) rfl ?_
              refine w_pure want_none (y_fieldAddr (o := 3) (i := 2) Try.underlying26 rfl Try.sizeOf24 rfl rfl rfl) rfl ?_
              refine w_pure want_none (y_load1 Try.isAgg24 hs58 rfl rfl (ats_own (i := 0) (vs := [_]) rfl rfl)) rfl ?_
              refine w_pure want_none (y_move (v := .int _ _) rfl rfl) rfl ?_
              refine w_pure want_none (y_indexS Try.underlying24 Try.sizeOf60 rfl rfl rfl rfl (i := _) rfl (by omega)) rfl ?_
              refine w_pure want_none (y_fieldAddr (o := 0) (i := 0) Try.underlying60 rfl Try.sizeOf9 rfl rfl rfl) rfl ?_
              refine w_pure want_none (y_load1 Try.isAgg9 hs58.tail.drop rfl rfl (show Ats _ _ _ _ [_] from Ats.part hx 0 1)) rfl ?_
              refine w_bslice (ps := [(0, _)]) (pv := [(0, .string _)]) (cs := [_]) want_none rfl rfl (fun w => Try_E_fb3 _ w) hs58 (fun b61 w62 hs63 => ?_)
              refine w_append (X := (_ :: _ :: [])) (B := B) (rows := [[_]]) (sz := 1) (bytes := 16) want_none Try.underlying78 Try_info9 rfl rfl rfl rfl rfl rfl rfl rfl rfl hs63 hown (sl_own (i := 0) rfl (by simp) rfl) rfl (by simp) (by simp [Value.oneCell']) (by simp only [maxLen]; omega) (by omega) (fun v64 w65 B66 ho67 hs68 => ?_)
              replace hs68 := (show St _ _ (_ :: _ :: B66 ++ (F)) from hs68)
              refine w_pure want_none (y_assign (v := v64) rfl rfl) rfl ?_
              refine w_nil ?_
              refine q_then (hK59 _ _ ?_)
              refine w_seq (fun K70 hK69 => ?_)
              refine w_seq (fun K72 hK71 => ?_)
              refine w_region ?_
              refine w_pure want_none (y_move (v := .int _ _) rfl rfl) rfl ?_
              refine w_pure want_none (y_eql rfl rfl rfl rfl) rfl ?_
              refine w_nil ?_
              refine q_then (hK71 _ _ ?_)
              refine w_cond rfl rfl (fun h73 => ?_) (fun h73 => ?_)
              ·
                try simp only [Bool.not_eq_true', Bool.not_eq_false', decide_eq_true_eq, decide_eq_false_iff_not, Int.not_lt, Int.not_le] at h73
                refine w_region ?_
                refine w_pure want_none (y_fieldAddr (o := 3) (i := 2) Try.underlying26 rfl Try.sizeOf24 rfl rfl rfl) rfl ?_
                refine w_pure want_none (y_load1 Try.isAgg24 hs68 rfl rfl (ats_own (i := 1) (vs := [_]) rfl rfl)) rfl ?_
                refine w_pure want_none (y_move (v := .int _ _) rfl rfl) rfl ?_
                refine w_pure want_none (y_indexS Try.underlying24 Try.sizeOf60 rfl rfl rfl rfl (i := _) rfl (by omega)) rfl ?_
                refine w_pure want_none (y_loadN (vs := [_, _, _, _, _, _]) Try.isAgg60 Try.sizeOf60 hs68.tail.tail.drop rfl rfl hx) rfl ?_
                refine w_call want_none Try.call52 rfl rfl rfl rfl (c52 _ hs68) ?_
                rintro _ w75 ⟨rfl, hs76⟩
                refine w_pure want_none (y_assign (v := .int _ _) rfl rfl) rfl ?_
                refine w_nil ?_
                refine q_then (hK69 _ _ ?_)
                refine w_seq (fun K78 hK77 => ?_)
                refine w_region ?_
                refine w_pure want_none (y_move (v := .int _ _) rfl rfl) rfl ?_
                refine w_pure want_none (y_neq rfl rfl rfl rfl) rfl ?_
                refine w_nil ?_
                refine q_then (hK77 _ _ ?_)
                refine w_cond rfl rfl (fun h79 => ?_) (fun h79 => ?_)
                ·
                  try simp only [Bool.not_eq_true', Bool.not_eq_false', decide_eq_true_eq, decide_eq_false_iff_not, Int.not_lt, Int.not_le] at h79
                  refine w_seq (fun K81 hK80 => ?_)
                  refine w_region ?_
                  refine w_pure want_none (y_move (v := .int _ _) rfl rfl) rfl ?_
                  refine w_pure want_none (y_move (v := .int _ _) rfl rfl) rfl ?_
                  refine w_pure want_none (y_assign (v := _) rfl rfl) rfl ?_
                  refine w_pure want_none (y_assign (v := .int _ _) rfl rfl) rfl ?_
                  refine w_pure want_none (y_assign (v := .int _ _) rfl rfl) rfl ?_
                  refine w_nil ?_
                  refine q_then (hK80 _ _ ?_)
                  refine w_ret ?_
                  refine q_blk_ret ?_
                  refine q_then_ret ?_
                  refine q_then_ret ?_
                  refine q_blk_ret ?_
                  refine q_then_ret ?_
                  refine q_ret (l := [.tmp 2, .tmp 3, .tmp 4]) (vs := [_, _, _]) rfl ⟨⟨rfl, show _ = (.int _ _ : Value) from rfl⟩, ⟨rfl, show _ = (.int _ _ : Value) from rfl⟩, ⟨rfl, show _ = (.int _ _ : Value) from rfl⟩, trivial⟩ ?_
                  first
                    | exact ⟨tup3 (hinv.trans (farmsErr_end (by omega) _)), hs76.tail.drop⟩
                    | exact ⟨tup3 (chk_no1 p (by omega)), hs76.tail⟩
                    | exact ⟨tup3 (chk_no2 p (by assumption) (by assumption) (by assumption)), hs76.tail⟩
                    | exact ⟨tup3 (chk_no3 p (by omega) (by omega) (by omega)), hs76.tail⟩
                    | contradiction
                    | (refine ⟨tup3 (hinv.trans ?_), hs76.tail.tail.drop⟩; have hE := fErr_ref (names (p.farms.take i)) p.farms[i]; rw [if_neg (by assumption)] at hE; rw [farmsErr_stop hi2 (by rw [hE]; assumption), hE])
                    | (refine ⟨tup3 (hinv.trans ?_), hs76.tail.tail.drop⟩; have hE := fErr_ref (names (p.farms.take i)) p.farms[i]; rw [if_pos (by assumption)] at hE; rw [farmsErr_stop hi2 (by rw [hE]; assumption), hE])
                ·
                  try simp only [Bool.not_eq_true', Bool.not_eq_false', decide_eq_true_eq, decide_eq_false_iff_not, Int.not_lt, Int.not_le] at h79
                  refine w_skip ?_
                  refine q_blk_normal ?_
                  refine q_then (hK52 _ _ ?_)
                  refine w_region ?_
                  refine w_pure want_none (y_move (v := .int _ _) rfl rfl) rfl ?_
                  refine w_pure want_none (y_add rfl rfl rfl rfl (by omega) (by omega)) rfl ?_
                  refine w_pure want_none (y_assign (v := .int _ _) rfl rfl) rfl ?_
                  refine w_nil ?_
                  refine q_then (hN44 _ _ (Nx.intro (p.farms.length - (i + 1)) (by omega) (by repeat (first | exact agree_mix | refine agree_upd rfl ?_ | refine agree_updL rfl ?_ _ | refine agree_mixin rfl ?_)) ?_))
                  first
                    | contradiction
                    | exact ⟨i + 1, _, _, rfl, by omega, rfl, hinv.trans (farmsErr_step hi2 (by rw [fErr_ref]; first | (rw [if_pos (by assumption)]; assumption) | (rw [if_neg (by assumption)]; assumption))), by rw [← names_snoc hi2]; exact ho67, hs76.tail⟩
              ·
                try simp only [Bool.not_eq_true', Bool.not_eq_false', decide_eq_true_eq, decide_eq_false_iff_not, Int.not_lt, Int.not_le] at h73
                refine w_skip ?_
                refine q_then (hK69 _ _ ?_)
                refine w_seq (fun K83 hK82 => ?_)
                refine w_region ?_
                refine w_pure want_none (y_move (v := .int _ _) rfl rfl) rfl ?_
                refine w_pure want_none (y_neq rfl rfl rfl rfl) rfl ?_
                refine w_nil ?_
                refine q_then (hK82 _ _ ?_)
                refine w_cond rfl rfl (fun h84 => ?_) (fun h84 => ?_)
                ·
                  try simp only [Bool.not_eq_true', Bool.not_eq_false', decide_eq_true_eq, decide_eq_false_iff_not, Int.not_lt, Int.not_le] at h84
                  refine w_seq (fun K86 hK85 => ?_)
                  refine w_region ?_
                  refine w_pure want_none (y_move (v := .int _ _) rfl rfl) rfl ?_
                  refine w_pure want_none (y_move (v := .int _ _) rfl rfl) rfl ?_
                  refine w_pure want_none (y_assign (v := _) rfl rfl) rfl ?_
                  refine w_pure want_none (y_assign (v := .int _ _) rfl rfl) rfl ?_
                  refine w_pure want_none (y_assign (v := .int _ _) rfl rfl) rfl ?_
                  refine w_nil ?_
                  refine q_then (hK85 _ _ ?_)
                  refine w_ret ?_
                  refine q_blk_ret ?_
                  refine q_then_ret ?_
                  refine q_then_ret ?_
                  refine q_blk_ret ?_
                  refine q_then_ret ?_
                  refine q_ret (l := [.tmp 2, .tmp 3, .tmp 4]) (vs := [_, _, _]) rfl ⟨⟨rfl, show _ = (.int _ _ : Value) from rfl⟩, ⟨rfl, show _ = (.int _ _ : Value) from rfl⟩, ⟨rfl, show _ = (.int _ _ : Value) from rfl⟩, trivial⟩ ?_
                  first
                    | exact ⟨tup3 (hinv.trans (farmsErr_end (by omega) _)), hs68.tail.drop⟩
                    | exact ⟨tup3 (chk_no1 p (by omega)), hs68.tail⟩
                    | exact ⟨tup3 (chk_no2 p (by assumption) (by assumption) (by assumption)), hs68.tail⟩
                    | exact ⟨tup3 (chk_no3 p (by omega) (by omega) (by omega)), hs68.tail⟩
                    | contradiction
                    | (refine ⟨tup3 (hinv.trans ?_), hs68.tail.tail.drop⟩; have hE := fErr_ref (names (p.farms.take i)) p.farms[i]; rw [if_neg (by assumption)] at hE; rw [farmsErr_stop hi2 (by rw [hE]; assumption), hE])
                    | (refine ⟨tup3 (hinv.trans ?_), hs68.tail.tail.drop⟩; have hE := fErr_ref (names (p.farms.take i)) p.farms[i]; rw [if_pos (by assumption)] at hE; rw [farmsErr_stop hi2 (by rw [hE]; assumption), hE])
                ·
                  try simp only [Bool.not_eq_true', Bool.not_eq_false', decide_eq_true_eq, decide_eq_false_iff_not, Int.not_lt, Int.not_le] at h84
                  refine w_skip ?_
                  refine q_blk_normal ?_
                  refine q_then (hK52 _ _ ?_)
                  refine w_region ?_
                  refine w_pure want_none (y_move (v := .int _ _) rfl rfl) rfl ?_
                  refine w_pure want_none (y_add rfl rfl rfl rfl (by omega) (by omega)) rfl ?_
                  refine w_pure want_none (y_assign (v := .int _ _) rfl rfl) rfl ?_
                  refine w_nil ?_
                  refine q_then (hN44 _ _ (Nx.intro (p.farms.length - (i + 1)) (by omega) (by repeat (first | exact agree_mix | refine agree_upd rfl ?_ | refine agree_updL rfl ?_ _ | refine agree_mixin rfl ?_)) ?_))
                  first
                    | contradiction
                    | exact ⟨i + 1, _, _, rfl, by omega, rfl, hinv.trans (farmsErr_step hi2 (by rw [fErr_ref]; first | (rw [if_pos (by assumption)]; assumption) | (rw [if_neg (by assumption)]; assumption))), by rw [← names_snoc hi2]; exact ho67, hs68.tail⟩
            ·
              try simp only [Bool.not_eq_true', Bool.not_eq_false', decide_eq_true_eq, decide_eq_false_iff_not, Int.not_lt, Int.not_le] at h51
              refine w_exit ?_
              refine q_then_exit ?_
              refine q_then_exit ?_
              refine q_blk_this ?_
              refine q_then (hK40 _ _ ?_)
              refine w_seq (fun K88 hK87 => ?_)
              refine w_region ?_
              refine w_pure want_none (y_assign (v := _) rfl rfl) rfl ?_
              refine w_pure want_none (y_assign (v := _) rfl rfl) rfl ?_
              refine w_pure want_none (y_assign (v := _) rfl rfl) rfl ?_
              refine w_nil ?_
              refine q_then (hK87 _ _ ?_)
              refine w_ret ?_
              refine q_ret (l := [.tmp 2, .tmp 3, .tmp 4]) (vs := [_, _, _]) rfl ⟨⟨rfl, show _ = (.int _ _ : Value) from rfl⟩, ⟨rfl, show _ = (.int _ _ : Value) from rfl⟩, ⟨rfl, show _ = (.int _ _ : Value) from rfl⟩, trivial⟩ ?_
              first
                | exact ⟨tup3 (hinv.trans (farmsErr_end (by omega) _)), hs.tail.drop⟩
                | exact ⟨tup3 (chk_no1 p (by omega)), hs.tail⟩
                | exact ⟨tup3 (chk_no2 p (by assumption) (by assumption) (by assumption)), hs.tail⟩
                | exact ⟨tup3 (chk_no3 p (by omega) (by omega) (by omega)), hs.tail⟩
                | contradiction
                | (refine ⟨tup3 (hinv.trans ?_), hs.tail.tail.drop⟩; have hE := fErr_ref (names (p.farms.take i)) p.farms[i]; rw [if_neg (by assumption)] at hE; rw [farmsErr_stop hi2 (by rw [hE]; assumption), hE])
                | (refine ⟨tup3 (hinv.trans ?_), hs.tail.tail.drop⟩; have hE := fErr_ref (names (p.farms.take i)) p.farms[i]; rw [if_pos (by assumption)] at hE; rw [farmsErr_stop hi2 (by rw [hE]; assumption), hE])

end Go.Proofs
