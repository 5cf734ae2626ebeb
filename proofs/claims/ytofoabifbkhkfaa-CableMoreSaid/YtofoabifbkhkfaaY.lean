/- Walks of this seat, printed by gen.py over the engine: what each function returns, in whatever world. No conditions but those of each contract. -/
import Derived.Test.YtofoabifbkhkfaaX
set_option linter.unusedVariables false
set_option linter.unusedSimpArgs false
set_option maxRecDepth 20000
namespace Go.Proofs
open Go.Rt
attribute [local irreducible] WL WC Con Yd At Ats Sl Agree DW
theorem Try_Y_fb9  (w : World) : (Instr.buildSlice 24 0 [].toArray).run Try.prog w = .ok (.slice (some ⟨w.heap.size, 0, none⟩) 0 0) (w.alloc (Go.Rt.blk 60 [])) := by kernel_rfl
theorem setMany_take : ∀ (vs cs : List Value) (off m : Nat), (setMany cs off vs).take m = setMany (cs.take m) off vs
  | [], _, _, _ => rfl
  | v :: vs, cs, off, m => by simp only [setMany]; rw [setMany_take, List.take_set]
theorem setMany_at (pre : List Value) : ∀ (vs cs : List Value) (off : Nat), setMany (pre ++ cs) (pre.length + off) vs = pre ++ setMany cs off vs
  | [], _, _ => rfl
  | v :: vs, cs, off => by
    simp only [setMany]
    rw [List.set_append_right _ _ (by omega), show pre.length + off - pre.length = off by omega, Nat.add_assoc]
    exact setMany_at pre vs _ _
theorem setMany_length : ∀ (vs cs : List Value) (off : Nat), (setMany cs off vs).length = cs.length
  | [], _, _ => rfl
  | v :: vs, cs, off => by simp only [setMany]; rw [setMany_length, List.length_set]
theorem rows_put (f : Farm) : ∀ (l : List Farm) (i : Nat), i < l.length → setMany (rows l).flatten (i * 6) f.cells = (rows (l.set i f)).flatten
  | [], i, h => by simp at h
  | g :: l, 0, _ => by simp [rows, Farm.cells, setMany]
  | g :: l, i + 1, h => by
    have ih := rows_put f l i (by simpa using h)
    have e : (rows (g :: l)).flatten = g.cells ++ (rows l).flatten := by simp [rows]
    rw [e, show (i + 1) * 6 = g.cells.length + i * 6 by simp [Farm.cells]; omega, setMany_at, ih]
    simp [rows]
theorem keep_put {l : List Farm} {i : Nat} (k : Int) (hi : i < l.length) : l.set i { l[i] with keep := k } = setKeep l i k := by
  unfold setKeep
  apply List.ext_getElem?
  intro j
  rw [List.getElem?_modify, List.getElem?_set]
  by_cases h : i = j
  · subst h; simp [hi]
  · simp [h]
theorem kept_cells {cs : List Value} {l : List Farm} {i : Nat} (k : Int) (hi : i < l.length) (h : cs.take (l.length * 6) = (rows l).flatten) : (setMany cs (i * 6) [.string l[i].name, .int .i64 l[i].way, .int .i64 l[i].notice, .int .i64 k, .int .i64 l[i].lo, .int .i64 l[i].hi]).take (l.length * 6) = (rows (setKeep l i k)).flatten := by
  rw [setMany_take, h, ← keep_put k hi]
  exact rows_put { l[i] with keep := k } _ _ hi
theorem kept_val (p : Port) (i : Nat) (k : Int) (a : Option Addr) (c : Nat) : Value.agg #[.int .i64 p.hold, .int .i64 p.clo, .int .i64 p.chi, .slice a p.farms.length c] = .agg ((kept p i k).cells a c).toArray := by
  unfold Port.cells kept; simp [setKeep_len]
theorem c46 {w0 w : World} {F : List (Nat × Obj)} (p : Port) (a : Option Addr) (c : Nat) (ha : Sl w0 F a 6 (rows p.farms)) (h3 : p.farms.length ≤ 1000) (i : Nat) (hi : i < p.farms.length) (k : Int) (hs : St w0 w F) :
  Con Try.prog 46 [.agg (p.cells a c).toArray, .int .i64 (i : Int), .int .i64 k] w fun v w' => ∃ B a' c', v = .agg ((kept p i k).cells a' c').toArray ∧ Sl w0 (B ++ F) a' 6 (rows (kept p i k).farms) ∧ St w0 w' (B ++ F) ∧ p.farms.length ≤ c' := by
  refine con_of_wc (n := 26) Try.func46 rfl rfl (Nat.le_of_ble_eq_true rfl) ?_
  obtain ⟨bx, ox, rfl, hx⟩ := sl_farm ha hi
  refine w_seq (fun K2 hK1 => ?_)
  refine w_region ?_
  refine w_box (v := .agg #[.int _ _, .int _ _, .int _ _, .slice _ _ _]) (cs := [_, _, _, _]) want_none rfl rfl rfl hs (fun b3 w4 hs5 => ?_)
  refine w_alloc (cs := [_, _, _, _]) want_none Try.zeroValue26 rfl hs5 (fun b6 w7 hs8 => ?_)
  refine w_nil ?_
  refine q_then (hK1 _ _ ?_)
  refine w_seq (fun K10 hK9 => ?_)
  refine w_region ?_
  refine w_bslice (ps := []) (pv := []) (cs := []) want_none rfl rfl (fun w => Try_Y_fb9  w) hs8 (fun b11 w12 hs13 => ?_)
  refine w_pure want_none (y_fieldAddr (o := 3) (i := 2) Try.underlying26 rfl Try.sizeOf24 rfl rfl rfl) rfl ?_
  refine w_pure want_none (y_load1 Try.isAgg24 hs13 rfl rfl (ats_own (i := 2) (vs := [_]) rfl rfl)) rfl ?_
  refine w_append (X := ([])) (B := [_]) (rows := (rows p.farms)) (sz := 6) (bytes := 56) want_none Try.underlying24 Try_info60 rfl rfl rfl rfl rfl rfl rfl rfl rfl hs13 own_made ha.cons.cons.cons (by simp [rows]) (by simp) (rows_one p.farms) (by simp only [maxLen]; omega) (by omega) (fun v14 w15 B16 ho17 hs18 => ?_)
  replace hs18 := (show St _ _ (B16 ++ (_ :: _ :: F)) from hs18)
  rw [Nat.zero_add, List.nil_append] at ho17
  obtain ⟨bc, cap, cs0, rfl, rfl, hcap, hcl0, hcs0⟩ := own_some ho17 (by omega)
  replace hs18 := (show St _ _ (_ :: _ :: _ :: F) from hs18)
  refine w_pure want_none (y_fieldAddr (o := 3) (i := 2) Try.underlying26 rfl Try.sizeOf24 rfl rfl rfl) rfl ?_
  refine w_store (i := 2) (v := .slice _ _ _) (vs := [_]) want_none Try.sizeOf24 rfl rfl rfl rfl rfl (by simp [Value.oneCell']) hs18 rfl (Nat.le_of_ble_eq_true rfl) (fun w19 hs20 => ?_)
  refine w_nil ?_
  refine q_then (hK9 _ _ ?_)
  refine w_seq (fun K22 hK21 => ?_)
  refine w_region ?_
  refine w_pure want_none (y_fieldAddr (o := 3) (i := 2) Try.underlying26 rfl Try.sizeOf24 rfl rfl rfl) rfl ?_
  refine w_pure want_none (y_load1 Try.isAgg24 hs20 rfl rfl (ats_own (i := 2) (vs := [_]) rfl rfl)) rfl ?_
  refine w_pure want_none (y_move (v := .int _ _) rfl rfl) rfl ?_
  obtain ⟨bz, oz, hze, hz⟩ := sl_farm (sl_own_rows (w0 := w0) (L := (bc, blk 60 cs0) :: (b6, blk 26 [.int .i64 0, .int .i64 0, .int .i64 0, .slice none 0 0]) :: (b3, blk 26 (p.cells (some ⟨bc, 0, none⟩) cap)) :: F) (i := 0) rfl rfl hcs0) hi
  cases hze
  refine w_pure want_none (y_indexS Try.underlying24 Try.sizeOf60 rfl rfl rfl rfl (i := _) rfl (by omega)) rfl ?_
  refine w_pure want_none (y_loadN (vs := [_, _, _, _, _, _]) Try.isAgg60 Try.sizeOf60 hs20 rfl rfl hz) rfl ?_
  refine w_alloc (cs := [_, _, _, _, _, _]) want_none Try.zeroValue60 rfl hs20 (fun b23 w24 hs25 => ?_)
  refine w_store (i := 0) (v := .agg #[.string _, .int _ _, .int _ _, .int _ _, .int _ _, .int _ _]) (vs := [_, _, _, _, _, _]) want_none Try.sizeOf60 rfl rfl rfl rfl rfl (by simp [Value.oneCell']) hs25 rfl (Nat.le_of_ble_eq_true rfl) (fun w26 hs27 => ?_)
  refine w_nil ?_
  refine q_then (hK21 _ _ ?_)
  refine w_seq (fun K29 hK28 => ?_)
  refine w_region ?_
  refine w_pure want_none (y_move (v := .int _ _) rfl rfl) rfl ?_
  refine w_pure want_none (y_fieldAddr (o := 3) (i := 3) Try.underlying60 rfl Try.sizeOf3 rfl rfl rfl) rfl ?_
  refine w_store (i := 0) (v := .int _ _) (vs := [_]) want_none Try.sizeOf3 rfl rfl rfl rfl rfl (by simp [Value.oneCell']) hs27 rfl (Nat.le_of_ble_eq_true rfl) (fun w30 hs31 => ?_)
  refine w_nil ?_
  refine q_then (hK28 _ _ ?_)
  refine w_seq (fun K33 hK32 => ?_)
  refine w_region ?_
  refine w_pure want_none (y_fieldAddr (o := 3) (i := 2) Try.underlying26 rfl Try.sizeOf24 rfl rfl rfl) rfl ?_
  refine w_pure want_none (y_load1 Try.isAgg24 hs31 rfl rfl (ats_own (i := 3) (vs := [_]) rfl rfl)) rfl ?_
  refine w_pure want_none (y_move (v := .int _ _) rfl rfl) rfl ?_
  refine w_pure want_none (y_loadN (vs := [_, _, _, _, _, _]) Try.isAgg60 Try.sizeOf60 hs31 rfl rfl (ats_own (i := 0) (vs := [_, _, _, _, _, _]) rfl rfl)) rfl ?_
  refine w_pure want_none (y_indexS Try.underlying24 Try.sizeOf60 rfl rfl rfl rfl (i := _) rfl (by omega)) rfl ?_
  refine w_store (i := 1) (v := .agg #[_, _, _, _, _, _]) (vs := [.string p.farms[i].name, .int .i64 p.farms[i].way, .int .i64 p.farms[i].notice, .int .i64 k, .int .i64 p.farms[i].lo, .int .i64 p.farms[i].hi]) want_none Try.sizeOf60 rfl rfl rfl rfl rfl (by simp [Value.oneCell']) hs31 rfl (show 0 + i * 6 + 6 ≤ cs0.length by omega) (fun w34 hs35 => ?_)
  replace hs35 := (show St _ _ (_ :: (bc, blk 60 (setMany cs0 (i * 6) [.string p.farms[i].name, .int .i64 p.farms[i].way, .int .i64 p.farms[i].notice, .int .i64 k, .int .i64 p.farms[i].lo, .int .i64 p.farms[i].hi])) :: _ :: _ :: F) from (by have h6 := hs35; simp only [Nat.zero_add] at h6; exact h6))
  refine w_nil ?_
  refine q_then (hK32 _ _ ?_)
  refine w_seq (fun K37 hK36 => ?_)
  refine w_region ?_
  refine w_pure want_none (y_loadN (vs := [_, _, _, _]) Try.isAgg26 Try.sizeOf26 hs35 rfl rfl (ats_own (i := 3) (vs := [_, _, _, _]) rfl rfl)) rfl ?_
  refine w_store (i := 2) (v := .agg #[.int _ _, .int _ _, .int _ _, .slice _ _ _]) (vs := [_, _, _, _]) want_none Try.sizeOf26 rfl rfl rfl rfl rfl (by simp [Value.oneCell']) hs35 rfl (Nat.le_of_ble_eq_true rfl) (fun w38 hs39 => ?_)
  refine w_nil ?_
  refine q_then (hK36 _ _ ?_)
  refine w_ret ?_
  refine q_ret (l := [.cell 6 26]) (vs := [_]) rfl ⟨⟨rfl, _, rfl, run_loadVarN (vs := [_, _, _, _]) Try.isAgg26 Try.sizeOf26 hs39 (ats_own (i := 2) (vs := [_, _, _, _]) rfl rfl)⟩, trivial⟩ ?_
  exact ⟨[_, _, _, _], some ⟨bc, 0, none⟩, cap, kept_val p i k _ _, sl_own_rows (i := 1) rfl (setKeep_len _ _ _) (kept_cells k hi hcs0), hs39, by omega⟩

theorem rearly_e2 {p : Port} (h : (check p).2.2 = 0) (h2 : 0 < (doC p).length) : earlyD p = (0, 0, 2) := early_e2 h (by cases hd : doC p with | nil => rw [hd] at h2; simp at h2 | cons x l => rfl)
theorem rearly_go {p : Port} (h : (check p).2.2 = 0) (h2 : (doC p).length ≤ 0) : earlyD p = earlyFrom p 0 (p.farms.drop 0) := early_go h (by cases hd : doC p with | nil => rfl | cons x l => rw [hd] at h2; simp at h2)
theorem rearly_yes {p : Port} {i n : Nat} {k : Int} (h : 0 < (doC (kept p i k)).length) : earlyK p i k (n + 1) = some k := earlyK_yes (by cases hd : doC (kept p i k) with | nil => rw [hd] at h; simp at h | cons x l => rfl)
theorem rearly_no {p : Port} {i n : Nat} {k : Int} (h : (doC (kept p i k)).length ≤ 0) : earlyK p i k (n + 1) = earlyK p i (k + 1) n := earlyK_no (by cases hd : doC (kept p i k) with | nil => rfl | cons x l => rw [hd] at h; simp at h)
theorem drop_2 {w0 w : World} {x : Nat × Obj} {A B F : List (Nat × Obj)} (h : St w0 w (A ++ (B ++ (x :: F)))) : St w0 w (x :: F) := h.drop.drop
theorem c32 {w0 w : World} {F : List (Nat × Obj)} (p : Port) (a : Option Addr) (c : Nat) (hl3 : p.farms.length ≤ 9223372036854775807) (hc : p.farms.length ≤ c) (ha : Sl w0 F a 6 (rows p.farms)) (hnm : ∀ f ∈ p.farms, f.name.size ≤ 9223372036854775807)  (hs : St w0 w F) :
  Con Try.prog 32 [.agg (p.cells a c).toArray] w fun v w' => v = .tuple #[.int .i64 (earlyD p).1, .int .i64 (earlyD p).2.1, .int .i64 (earlyD p).2.2] ∧ St w0 w' F := by
  refine con_of_wc (n := 61) Try.func32 rfl rfl (Nat.le_of_ble_eq_true rfl) ?_
  refine w_seq (fun K2 hK1 => ?_)
  refine w_region ?_
  refine w_box (v := .agg #[.int _ _, .int _ _, .int _ _, .slice _ _ _]) (cs := [_, _, _, _]) want_none rfl rfl rfl hs (fun b3 w4 hs5 => ?_)
  refine w_pure want_none (y_assign (v := _) rfl rfl) rfl ?_
  refine w_pure want_none (y_assign (v := _) rfl rfl) rfl ?_
  refine w_pure want_none (y_assign (v := _) rfl rfl) rfl ?_
  refine w_nil ?_
  refine q_then (hK1 _ _ ?_)
  refine w_seq (fun K7 hK6 => ?_)
  refine w_region ?_
  refine w_pure want_none (y_loadN (vs := [_, _, _, _]) Try.isAgg26 Try.sizeOf26 hs5 rfl rfl (ats_own (i := 0) (vs := [_, _, _, _]) rfl rfl)) rfl ?_
  refine w_call want_none Try.call17 rfl rfl rfl rfl (c17 p _ _ (by omega) (by omega) ha.cons hnm hs5) ?_
  rintro _ w9 ⟨rfl, hs10⟩
  refine w_pure want_none (y_move (v := .tuple _) rfl rfl) rfl ?_
  refine w_pure want_none (y_extract (v := .int _ _) rfl rfl rfl) rfl ?_
  refine w_pure want_none (y_extract (v := .int _ _) rfl rfl rfl) rfl ?_
  refine w_pure want_none (y_extract (v := .int _ _) rfl rfl rfl) rfl ?_
  refine w_pure want_none (y_assign (v := .int _ _) rfl rfl) rfl ?_
  refine w_pure want_none (y_assign (v := .int _ _) rfl rfl) rfl ?_
  refine w_pure want_none (y_assign (v := .int _ _) rfl rfl) rfl ?_
  refine w_nil ?_
  refine q_then (hK6 _ _ ?_)
  refine w_seq (fun K12 hK11 => ?_)
  refine w_seq (fun K14 hK13 => ?_)
  refine w_region ?_
  refine w_pure want_none (y_move (v := .int _ _) rfl rfl) rfl ?_
  refine w_pure want_none (y_eql rfl rfl rfl rfl) rfl ?_
  refine w_pure want_none (y_move (v := .bool _) rfl rfl) rfl ?_
  refine w_split (fun h15 => ?_) (fun h15 => ?_)
  ·
    try simp only [Bool.not_eq_true', Bool.not_eq_false', decide_eq_true_eq, decide_eq_false_iff_not, Int.not_lt, Int.not_le] at h15
    refine w_pure (want_yes rfl rfl rfl) (y_loadN (vs := [_, _, _, _]) Try.isAgg26 Try.sizeOf26 hs10 rfl rfl (ats_own (i := 0) (vs := [_, _, _, _]) rfl rfl)) rfl ?_
    have hok := check_ok (by assumption)
    have hsm := do_small hok
    have hlen3 := hok.len
    refine w_call (want_yes rfl rfl rfl) Try.call47 rfl rfl rfl rfl (c47 p _ _ ha.cons hok hs10) ?_
    rintro _ w17 ⟨BD, vd, ad, cd, rfl, hsd, hed, hs18⟩
    replace hs18 := (show St _ _ (BD ++ (_ :: F)) from hs18)
    refine w_pure (want_yes rfl rfl rfl) (y_lenS Try.underlying62 rfl rfl) rfl ?_
    refine w_pure (want_yes rfl rfl rfl) (y_gtr rfl rfl rfl rfl) rfl ?_
    refine w_pure want_none (y_pickT (v := .bool _) rfl rfl rfl rfl) rfl ?_
    refine w_nil ?_
    refine q_then (hK13 _ _ ?_)
    refine w_cond rfl rfl (fun h19 => ?_) (fun h19 => ?_)
    ·
      try simp only [Bool.not_eq_true', Bool.not_eq_false', decide_eq_true_eq, decide_eq_false_iff_not, Int.not_lt, Int.not_le] at h19
      refine w_region ?_
      refine w_pure want_none (y_assign (v := _) rfl rfl) rfl ?_
      refine w_nil ?_
      refine q_then (hK11 _ _ ?_)
      refine w_seq (fun K21 hK20 => ?_)
      refine w_seq (fun K23 hK22 => ?_)
      refine w_region ?_
      refine w_pure want_none (y_move (v := .int _ _) rfl rfl) rfl ?_
      refine w_pure want_none (y_neq rfl rfl rfl rfl) rfl ?_
      refine w_nil ?_
      refine q_then (hK22 _ _ ?_)
      refine w_condT rfl rfl ?_
      refine w_seq (fun K25 hK24 => ?_)
      refine w_region ?_
      refine w_pure want_none (y_move (v := .int _ _) rfl rfl) rfl ?_
      refine w_pure want_none (y_assign (v := _) rfl rfl) rfl ?_
      refine w_pure want_none (y_assign (v := _) rfl rfl) rfl ?_
      refine w_pure want_none (y_assign (v := .int _ _) rfl rfl) rfl ?_
      refine w_nil ?_
      refine q_then (hK24 _ _ ?_)
      refine w_ret ?_
      refine q_then_ret ?_
      refine q_ret (l := [.tmp 2, .tmp 3, .tmp 4]) (vs := [_, _, _]) rfl ⟨⟨rfl, show _ = (.int _ _ : Value) from rfl⟩, ⟨rfl, show _ = (.int _ _ : Value) from rfl⟩, ⟨rfl, show _ = (.int _ _ : Value) from rfl⟩, trivial⟩ ?_
      first
        | exact ⟨tup3 (early_e1 (by assumption)), hs18.drop.tail⟩
        | exact ⟨tup3 (rearly_e2 (by assumption) (by omega)), hs18.drop.tail⟩
        | exact ⟨tup3 (hinv.trans (by rw [List.drop_of_length_le (by omega)]; rfl)), hs18.drop.tail⟩
        | exact ⟨tup3 (hinv.trans (by rw [early_here hi2, hk, show (10 - k).toNat = (10 - (k + 1)).toNat + 1 by omega, rearly_yes (by omega)])), hs18.drop.tail⟩
    ·
      try simp only [Bool.not_eq_true', Bool.not_eq_false', decide_eq_true_eq, decide_eq_false_iff_not, Int.not_lt, Int.not_le] at h19
      refine w_skip ?_
      refine q_then (hK11 _ _ ?_)
      refine w_seq (fun K27 hK26 => ?_)
      refine w_seq (fun K29 hK28 => ?_)
      refine w_region ?_
      refine w_pure want_none (y_move (v := .int _ _) rfl rfl) rfl ?_
      refine w_pure want_none (y_neq rfl rfl rfl rfl) rfl ?_
      refine w_nil ?_
      refine q_then (hK28 _ _ ?_)
      refine w_cond rfl rfl (fun h30 => ?_) (fun h30 => ?_)
      ·
        try simp only [Bool.not_eq_true', Bool.not_eq_false', decide_eq_true_eq, decide_eq_false_iff_not, Int.not_lt, Int.not_le] at h30
        contradiction
      ·
        try simp only [Bool.not_eq_true', Bool.not_eq_false', decide_eq_true_eq, decide_eq_false_iff_not, Int.not_lt, Int.not_le] at h30
        refine w_skip ?_
        refine q_then (hK26 _ _ ?_)
        refine w_seq (fun K32 hK31 => ?_)
        refine w_seq (fun K34 hK33 => ?_)
        refine w_region ?_
        refine w_pure want_none (y_assign (v := _) rfl rfl) rfl ?_
        refine w_nil ?_
        refine q_then (hK33 _ _ ?_)
        refine w_block ?_
        refine w_loop [2, 3, 4, 8, 9, 27, 28, 29, 30, 31, 32, 33, 34, 35, 36, 37, 38, 39, 40, 41, 42, 43, 44, 45, 46, 47, 48, 49, 50, 51, 52, 53, 54, 55, 56, 57, 58, 59, 60] [8] (fun kk vs w => ∃ i : Nat, vs = [.int .i64 i] ∧ i ≤ p.farms.length ∧ kk = p.farms.length - i ∧ earlyD p = earlyFrom p i (p.farms.drop i) ∧ St w0 w ((b3, blk 26 (p.cells a c)) :: F)) (p.farms.length) ?_ ?_
        ·
          exact ⟨0, rfl, by omega, by omega, rearly_go (by assumption) (by omega), hs18.drop⟩
        ·
          intro k vs μ w37 hI K36 hN35
          obtain ⟨i, rfl, hia, rfl, hinv, hs⟩ := hI
          refine w_seq (fun K39 hK38 => ?_)
          refine w_seq (fun K41 hK40 => ?_)
          refine w_region ?_
          refine w_pure want_none (y_move (v := .int _ _) rfl rfl) rfl ?_
          refine w_pure want_none (y_fieldAddr (o := 3) (i := 2) Try.underlying26 rfl Try.sizeOf24 rfl rfl rfl) rfl ?_
          refine w_pure want_none (y_load1 Try.isAgg24 hs rfl rfl (ats_own (i := 0) (vs := [_]) rfl rfl)) rfl ?_
          refine w_pure want_none (y_lenS Try.underlying24 rfl rfl) rfl ?_
          refine w_pure want_none (y_lss rfl rfl rfl rfl) rfl ?_
          refine w_nil ?_
          refine q_then (hK40 _ _ ?_)
          refine w_cond rfl rfl (fun h42 => ?_) (fun h42 => ?_)
          ·
            try simp only [Bool.not_eq_true', Bool.not_eq_false', decide_eq_true_eq, decide_eq_false_iff_not, Int.not_lt, Int.not_le] at h42
            refine w_skip ?_
            refine q_then (hK38 _ _ ?_)
            refine w_seq (fun K44 hK43 => ?_)
            refine w_block ?_
            refine w_seq (fun K46 hK45 => ?_)
            have hi2 : i < p.farms.length := by omega
            have hfo := hok.farm _ (List.getElem_mem hi2)
            unfold Farm.Ok at hfo
            obtain ⟨bx, ox, rfl, hx⟩ := sl_farm ha hi2
            refine w_region ?_
            refine w_pure want_none (y_fieldAddr (o := 3) (i := 2) Try.underlying26 rfl Try.sizeOf24 rfl rfl rfl) rfl ?_
            refine w_pure want_none (y_load1 Try.isAgg24 hs rfl rfl (ats_own (i := 0) (vs := [_]) rfl rfl)) rfl ?_
            refine w_pure want_none (y_move (v := .int _ _) rfl rfl) rfl ?_
            refine w_pure want_none (y_indexS Try.underlying24 Try.sizeOf60 rfl rfl rfl rfl (i := _) rfl (by omega)) rfl ?_
            refine w_pure want_none (y_fieldAddr (o := 3) (i := 3) Try.underlying60 rfl Try.sizeOf3 rfl rfl rfl) rfl ?_
            refine w_pure want_none (y_load1 Try.isAgg3 hs.tail rfl rfl (show Ats _ _ _ _ [_] from Ats.part hx 3 1)) rfl ?_
            refine w_pure want_none (y_add rfl rfl rfl rfl (by omega) (by omega)) rfl ?_
            refine w_pure want_none (y_assign (v := .int _ _) rfl rfl) rfl ?_
            refine w_nil ?_
            refine q_then (hK45 _ _ ?_)
            refine w_block ?_
            refine w_loop [2, 3, 4, 9, 41, 42, 43, 44, 45, 46, 47, 48, 49, 50, 51, 52, 53, 54, 55, 56, 57, 58, 59, 60] [9] (fun kk vs w => ∃ (k : Int), vs = [.int .i64 k] ∧ p.farms[i].keep + 1 ≤ k ∧ k ≤ 10 ∧ kk = (10 - k).toNat ∧ earlyK p i (p.farms[i].keep + 1) (9 - p.farms[i].keep).toNat = earlyK p i k (10 - k).toNat ∧ St w0 w ((b3, blk 26 (p.cells (some ⟨bx, ox, none⟩) c)) :: F)) ((9 - p.farms[i].keep).toNat) ?_ ?_
            ·
              exact ⟨p.farms[i].keep + 1, rfl, by omega, by omega, by omega, by rw [show (10 - (p.farms[i].keep + 1)).toNat = (9 - p.farms[i].keep).toNat by omega], hs⟩
            ·
              intro k vs μ w49 hI K48 hN47
              obtain ⟨k, rfl, hk0, hk9, rfl, hk, hs⟩ := hI
              refine w_seq (fun K51 hK50 => ?_)
              refine w_seq (fun K53 hK52 => ?_)
              refine w_region ?_
              refine w_pure want_none (y_move (v := .int _ _) rfl rfl) rfl ?_
              refine w_pure want_none (y_leq rfl rfl rfl rfl) rfl ?_
              refine w_nil ?_
              refine q_then (hK52 _ _ ?_)
              refine w_cond rfl rfl (fun h54 => ?_) (fun h54 => ?_)
              ·
                try simp only [Bool.not_eq_true', Bool.not_eq_false', decide_eq_true_eq, decide_eq_false_iff_not, Int.not_lt, Int.not_le] at h54
                refine w_skip ?_
                refine q_then (hK50 _ _ ?_)
                refine w_seq (fun K56 hK55 => ?_)
                refine w_block ?_
                refine w_seq (fun K58 hK57 => ?_)
                have hsm2 := do_small (kept_ok hok hi2 (k := k) (by omega) (by omega))
                refine w_region ?_
                refine w_pure want_none (y_loadN (vs := [_, _, _, _]) Try.isAgg26 Try.sizeOf26 hs rfl rfl (ats_own (i := 0) (vs := [_, _, _, _]) rfl rfl)) rfl ?_
                refine w_pure want_none (y_move (v := .int _ _) rfl rfl) rfl ?_
                refine w_pure want_none (y_move (v := .int _ _) rfl rfl) rfl ?_
                refine w_call want_none Try.call46 rfl rfl rfl rfl (c46 p _ _ ha.cons (by omega) i hi2 k hs) ?_
                rintro _ w60 ⟨BK, ak, ck, rfl, hsk, hs61, hck2⟩
                replace hs61 := (show St _ _ (BK ++ (_ :: F)) from hs61)
                refine w_call want_none Try.call47 rfl rfl rfl rfl (c47 (kept p i k) _ _ hsk (kept_ok hok hi2 (by omega) (by omega)) hs61) ?_
                rintro _ w63 ⟨BE, ve, ae, ce, rfl, hse, hee, hs64⟩
                replace hs64 := (show St _ _ (BE ++ (BK ++ (_ :: F))) from hs64)
                refine w_pure want_none (y_lenS Try.underlying62 rfl rfl) rfl ?_
                refine w_pure want_none (y_gtr rfl rfl rfl rfl) rfl ?_
                refine w_nil ?_
                refine q_then (hK57 _ _ ?_)
                refine w_cond rfl rfl (fun h65 => ?_) (fun h65 => ?_)
                ·
                  try simp only [Bool.not_eq_true', Bool.not_eq_false', decide_eq_true_eq, decide_eq_false_iff_not, Int.not_lt, Int.not_le] at h65
                  refine w_seq (fun K67 hK66 => ?_)
                  have hbx : Ats w0 ((b3, blk 26 (p.cells (some ⟨bx, ox, none⟩) c)) :: F) b3 0 (p.cells (some ⟨bx, ox, none⟩) c) := ats_own (i := 0) (vs := p.cells (some ⟨bx, ox, none⟩) c) rfl rfl
                  refine w_draw [] [(0, 0), (1, 0), (2, 0), (3, 1), (4, 0), (5, 0), (6, 0), (7, 1), (8, 0), (9, 0), (10, 0), (11, 0)] Try_mo (by kernel_rfl) hs64 (fun w68 hs69 => ?_)
                  refine d_any rfl want_none rfl (fun _ => (y_move (v := .int _ _) rfl rfl)) ?_
                  refine d_any rfl want_none rfl (fun _ => (y_move (v := .int _ _) rfl rfl)) ?_
                  refine d_any rfl want_none rfl (fun _ => (y_fieldAddr (o := 3) (i := 2) Try.underlying26 rfl Try.sizeOf24 rfl rfl rfl)) ?_
                  refine d_take rfl want_none rfl hs69 (fun _ hq => (y_load1 Try.isAgg24 hq.drop.drop rfl rfl (show Ats _ _ _ _ [_] from Ats.part hbx 3 1))) ?_
                  refine d_any rfl want_none rfl (fun _ => (y_move (v := .int _ _) rfl rfl)) ?_
                  refine d_any rfl want_none rfl (fun _ => (y_indexS Try.underlying24 Try.sizeOf60 rfl rfl rfl rfl (i := _) rfl (by omega))) ?_
                  refine d_any rfl want_none rfl (fun _ => (y_fieldAddr (o := 3) (i := 3) Try.underlying60 rfl Try.sizeOf3 rfl rfl rfl)) ?_
                  refine d_take rfl want_none rfl hs69 (fun _ hq => (y_load1 Try.isAgg3 hq.drop.drop.tail rfl rfl (show Ats _ _ _ _ [_] from Ats.part hx 3 1))) ?_
                  refine d_any rfl want_none rfl (fun _ => (y_sub rfl rfl rfl rfl (by omega) (by omega))) ?_
                  refine d_any rfl want_none rfl (fun _ => (y_assign (v := .int _ _) rfl rfl)) ?_
                  refine d_any rfl want_none rfl (fun _ => (y_assign (v := .int _ _) rfl rfl)) ?_
                  refine d_any rfl want_none rfl (fun _ => (y_assign (v := _) rfl rfl)) ?_
                  refine d_nil ?_
                  refine q_then (hK66 _ _ ?_)
                  refine w_ret ?_
                  refine q_blk_ret ?_
                  refine q_then_ret ?_
                  refine q_then_ret ?_
                  refine q_blk_ret ?_
                  refine q_blk_ret ?_
                  refine q_then_ret ?_
                  refine q_then_ret ?_
                  refine q_blk_ret ?_
                  refine q_then_ret ?_
                  refine q_ret (l := [.tmp 2, .tmp 3, .tmp 4]) (vs := [_, _, _]) rfl ⟨⟨rfl, show _ = (.int _ _ : Value) from rfl⟩, ⟨rfl, show _ = (.int _ _ : Value) from rfl⟩, ⟨rfl, show _ = (.int _ _ : Value) from rfl⟩, trivial⟩ ?_
                  first
                    | exact ⟨tup3 (early_e1 (by assumption)), hs69.drop.drop.tail⟩
                    | exact ⟨tup3 (rearly_e2 (by assumption) (by omega)), hs69.drop.drop.tail⟩
                    | exact ⟨tup3 (hinv.trans (by rw [List.drop_of_length_le (by omega)]; rfl)), hs69.drop.drop.tail⟩
                    | exact ⟨tup3 (hinv.trans (by rw [early_here hi2, hk, show (10 - k).toNat = (10 - (k + 1)).toNat + 1 by omega, rearly_yes (by omega)])), hs69.drop.drop.tail⟩
                ·
                  try simp only [Bool.not_eq_true', Bool.not_eq_false', decide_eq_true_eq, decide_eq_false_iff_not, Int.not_lt, Int.not_le] at h65
                  refine w_skip ?_
                  refine q_blk_normal ?_
                  refine q_then (hK55 _ _ ?_)
                  refine w_region ?_
                  refine w_pure want_none (y_move (v := .int _ _) rfl rfl) rfl ?_
                  refine w_pure want_none (y_add rfl rfl rfl rfl (by omega) (by omega)) rfl ?_
                  refine w_pure want_none (y_assign (v := .int _ _) rfl rfl) rfl ?_
                  refine w_nil ?_
                  refine q_then (hN47 _ _ (Nx.intro ((10 - (k + 1)).toNat) (by omega) (by repeat (first | exact agree_mix | refine agree_upd rfl ?_ | refine agree_updL rfl ?_ _ | refine agree_mixin rfl ?_)) ?_))
                  exact ⟨k + 1, rfl, by omega, by omega, rfl, (by rw [hk, show (10 - k).toNat = (10 - (k + 1)).toNat + 1 by omega]; exact rearly_no (by omega)), drop_2 hs64⟩
              ·
                try simp only [Bool.not_eq_true', Bool.not_eq_false', decide_eq_true_eq, decide_eq_false_iff_not, Int.not_lt, Int.not_le] at h54
                refine w_exit ?_
                refine q_then_exit ?_
                refine q_then_exit ?_
                refine q_blk_this ?_
                refine q_blk_normal ?_
                refine q_then (hK43 _ _ ?_)
                refine w_region ?_
                refine w_pure want_none (y_move (v := .int _ _) rfl rfl) rfl ?_
                refine w_pure want_none (y_add rfl rfl rfl rfl (by omega) (by omega)) rfl ?_
                refine w_pure want_none (y_assign (v := .int _ _) rfl rfl) rfl ?_
                refine w_nil ?_
                refine q_then (hN35 _ _ (Nx.intro (p.farms.length - (i + 1)) (by omega) (by repeat (first | exact agree_mix | refine agree_upd rfl ?_ | refine agree_updL rfl ?_ _ | refine agree_mixin rfl ?_)) ?_))
                exact ⟨i + 1, rfl, by omega, rfl, (by rw [hinv, early_here hi2, hk, show (10 - k).toNat = 0 by omega]; rfl), hs⟩
          ·
            try simp only [Bool.not_eq_true', Bool.not_eq_false', decide_eq_true_eq, decide_eq_false_iff_not, Int.not_lt, Int.not_le] at h42
            refine w_exit ?_
            refine q_then_exit ?_
            refine q_then_exit ?_
            refine q_blk_this ?_
            refine q_then (hK31 _ _ ?_)
            refine w_seq (fun K71 hK70 => ?_)
            refine w_region ?_
            refine w_pure want_none (y_assign (v := _) rfl rfl) rfl ?_
            refine w_pure want_none (y_assign (v := _) rfl rfl) rfl ?_
            refine w_pure want_none (y_assign (v := _) rfl rfl) rfl ?_
            refine w_nil ?_
            refine q_then (hK70 _ _ ?_)
            refine w_ret ?_
            refine q_ret (l := [.tmp 2, .tmp 3, .tmp 4]) (vs := [_, _, _]) rfl ⟨⟨rfl, show _ = (.int _ _ : Value) from rfl⟩, ⟨rfl, show _ = (.int _ _ : Value) from rfl⟩, ⟨rfl, show _ = (.int _ _ : Value) from rfl⟩, trivial⟩ ?_
            first
              | exact ⟨tup3 (early_e1 (by assumption)), hs.tail⟩
              | exact ⟨tup3 (rearly_e2 (by assumption) (by omega)), hs.tail⟩
              | exact ⟨tup3 (hinv.trans (by rw [List.drop_of_length_le (by omega)]; rfl)), hs.tail⟩
              | exact ⟨tup3 (hinv.trans (by rw [early_here hi2, hk, show (10 - k).toNat = (10 - (k + 1)).toNat + 1 by omega, rearly_yes (by omega)])), hs.tail⟩
  ·
    try simp only [Bool.not_eq_true', Bool.not_eq_false', decide_eq_true_eq, decide_eq_false_iff_not, Int.not_lt, Int.not_le] at h15
    refine w_skipop rfl rfl rfl ?_
    refine w_skipop rfl rfl rfl ?_
    refine w_skipop rfl rfl rfl ?_
    refine w_skipop rfl rfl rfl ?_
    refine w_pure want_none (y_pickF (v := _) rfl rfl rfl rfl) rfl ?_
    refine w_nil ?_
    refine q_then (hK13 _ _ ?_)
    refine w_condF rfl rfl ?_
    refine w_skip ?_
    refine q_then (hK11 _ _ ?_)
    refine w_seq (fun K73 hK72 => ?_)
    refine w_seq (fun K75 hK74 => ?_)
    refine w_region ?_
    refine w_pure want_none (y_move (v := .int _ _) rfl rfl) rfl ?_
    refine w_pure want_none (y_neq rfl rfl rfl rfl) rfl ?_
    refine w_nil ?_
    refine q_then (hK74 _ _ ?_)
    refine w_cond rfl rfl (fun h76 => ?_) (fun h76 => ?_)
    ·
      try simp only [Bool.not_eq_true', Bool.not_eq_false', decide_eq_true_eq, decide_eq_false_iff_not, Int.not_lt, Int.not_le] at h76
      refine w_seq (fun K78 hK77 => ?_)
      refine w_region ?_
      refine w_pure want_none (y_move (v := .int _ _) rfl rfl) rfl ?_
      refine w_pure want_none (y_assign (v := _) rfl rfl) rfl ?_
      refine w_pure want_none (y_assign (v := _) rfl rfl) rfl ?_
      refine w_pure want_none (y_assign (v := .int _ _) rfl rfl) rfl ?_
      refine w_nil ?_
      refine q_then (hK77 _ _ ?_)
      refine w_ret ?_
      refine q_then_ret ?_
      refine q_ret (l := [.tmp 2, .tmp 3, .tmp 4]) (vs := [_, _, _]) rfl ⟨⟨rfl, show _ = (.int _ _ : Value) from rfl⟩, ⟨rfl, show _ = (.int _ _ : Value) from rfl⟩, ⟨rfl, show _ = (.int _ _ : Value) from rfl⟩, trivial⟩ ?_
      first
        | exact ⟨tup3 (early_e1 (by assumption)), hs10.tail⟩
        | exact ⟨tup3 (rearly_e2 (by assumption) (by omega)), hs10.tail⟩
        | exact ⟨tup3 (hinv.trans (by rw [List.drop_of_length_le (by omega)]; rfl)), hs10.tail⟩
        | exact ⟨tup3 (hinv.trans (by rw [early_here hi2, hk, show (10 - k).toNat = (10 - (k + 1)).toNat + 1 by omega, rearly_yes (by omega)])), hs10.tail⟩
    ·
      try simp only [Bool.not_eq_true', Bool.not_eq_false', decide_eq_true_eq, decide_eq_false_iff_not, Int.not_lt, Int.not_le] at h76
      contradiction

end Go.Proofs
