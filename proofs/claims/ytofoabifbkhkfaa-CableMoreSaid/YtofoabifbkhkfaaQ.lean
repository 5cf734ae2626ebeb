/- Walks of this seat, printed by gen.py over the engine: what each function returns, in whatever world. No conditions but those of each contract. -/
import Derived.Test.YtofoabifbkhkfaaP
import Derived.Test.YtofoabifbkhkfaaCSpec10
set_option linter.unusedVariables false
set_option linter.unusedSimpArgs false
set_option maxRecDepth 20000
namespace Go.Proofs
open Go.Rt
attribute [local irreducible] WL WC Con Yd At Ats Sl Agree DW

theorem early_e1 {p : Port} (h : ¬ (check p).2.2 = 0) : earlyD p = (0, 0, (check p).2.2) := by unfold earlyD; rw [if_neg h]
theorem early_e2 {p : Port} (h : (check p).2.2 = 0) (h2 : (doC p).isEmpty = false) : earlyD p = (0, 0, 2) := by unfold earlyD; rw [if_pos h, if_neg (by rw [h2]; simp)]
theorem early_go {p : Port} (h : (check p).2.2 = 0) (h2 : (doC p).isEmpty = true) : earlyD p = earlyFrom p 0 (p.farms.drop 0) := by
  unfold earlyD; rw [if_pos h, if_pos h2]; rfl
theorem earlyK_yes {p : Port} {i n : Nat} {k : Int} (h : (doC (kept p i k)).isEmpty = false) : earlyK p i k (n + 1) = some k := by
  rw [earlyK, if_pos (by unfold canAt; rw [h]; rfl)]
theorem earlyK_no {p : Port} {i n : Nat} {k : Int} (h : (doC (kept p i k)).isEmpty = true) : earlyK p i k (n + 1) = earlyK p i (k + 1) n := by
  rw [earlyK]; rw [if_neg (by unfold canAt; rw [h]; simp)]
theorem own_some {t : TypeId} {sz n : Nat} {v : Value} {xs : List Value} {B : List (Nat × Obj)} (h : Rt.Own v t sz n xs B) (hn : 0 < n) : ∃ b cap cs, v = .slice (some ⟨b, 0, none⟩) n cap ∧ B = [(b, blk t cs)] ∧ n ≤ cap ∧ cs.length = cap * sz ∧ cs.take (n * sz) = xs := by
  rcases h.2 with ⟨_, h0, _⟩ | ⟨b, cap, cs, h1, h2, h3, _, h5, h6⟩
  · omega
  · exact ⟨b, cap, cs, h1, h2, h3, h5, h6⟩
theorem sl_own_rows {w0 : World} {L : List (Nat × Obj)} {i b n : Nat} {t : TypeId} {cs : List Value} {l : List Farm} (hi : L[i]? = some (b, blk t cs)) (hn : l.length = n) (h : cs.take (n * 6) = (rows l).flatten) : Sl w0 L (some ⟨b, 0, none⟩) 6 (rows l) :=
  sl_own hi (by intro row hr; obtain ⟨f, _, rfl⟩ := List.mem_map.1 hr; rfl) (by simpa [rows, hn] using h)
theorem c31 {w0 w : World} {F : List (Nat × Obj)} (p : Port) (a : Option Addr) (c : Nat) (hl3 : p.farms.length ≤ 9223372036854775807) (hc : p.farms.length ≤ c) (ha : Sl w0 F a 6 (rows p.farms)) (hnm : ∀ f ∈ p.farms, f.name.size ≤ 9223372036854775807)  (hs : St w0 w F) :
  Con Try.prog 31 [.agg (p.cells a c).toArray] w fun v w' => v = .tuple #[.int .i64 (earlyD p).1, .int .i64 (earlyD p).2.1, .int .i64 (earlyD p).2.2] ∧ St w0 w' F := by
  refine con_of_wc (n := 65) Try.func31 rfl rfl (Nat.le_of_ble_eq_true rfl) ?_
  refine w_seq (fun K2 hK1 => ?_)
  refine w_region ?_
  refine w_box (v := .agg #[.int _ _, .int _ _, .int _ _, .slice _ _ _]) (cs := [_, _, _, _]) want_none rfl rfl rfl hs (fun b3 w4 hs5 => ?_)
  refine w_pure want_none (y_assign (v := _) rfl rfl) rfl ?_
  refine w_pure want_none (y_assign (v := _) rfl rfl) rfl ?_
  refine w_pure want_none (y_assign (v := _) rfl rfl) rfl ?_
  refine w_nil ?_
  refine q_then (hK1 _ _ ?_)
  refine w_seq (fun K7 hK6 => ?_)
  refine w_region ?_
  refine w_pure want_none (y_loadN (vs := [_, _, _, _]) Try.isAgg26 Try.sizeOf26 hs5 rfl rfl (ats_own (i := 0) (vs := [_, _, _, _]) rfl rfl)) rfl ?_
  refine w_call want_none Try.call16 rfl rfl rfl rfl (c16 p _ _ (by omega) (by omega) ha.cons hnm hs5) ?_
  rintro _ w9 ⟨rfl, hs10⟩
  refine w_pure want_none (y_move (v := .tuple _) rfl rfl) rfl ?_
  refine w_pure want_none (y_extract (v := .int _ _) rfl rfl rfl) rfl ?_
  refine w_pure want_none (y_extract (v := .int _ _) rfl rfl rfl) rfl ?_
  refine w_pure want_none (y_extract (v := .int _ _) rfl rfl rfl) rfl ?_
  refine w_pure want_none (y_assign (v := .int _ _) rfl rfl) rfl ?_
  refine w_nil ?_
  refine q_then (hK6 _ _ ?_)
  refine w_seq (fun K12 hK11 => ?_)
  refine w_block ?_
  refine w_seq (fun K14 hK13 => ?_)
  refine w_region ?_
  refine w_pure want_none (y_move (v := .int _ _) rfl rfl) rfl ?_
  refine w_pure want_none (y_neq rfl rfl rfl rfl) rfl ?_
  refine w_pure want_none (y_assign (v := .bool _) rfl rfl) rfl ?_
  refine w_nil ?_
  refine q_then (hK13 _ _ ?_)
  refine w_cond rfl rfl (fun h15 => ?_) (fun h15 => ?_)
  ·
    try simp only [Bool.not_eq_true', Bool.not_eq_false', decide_eq_true_eq, decide_eq_false_iff_not, Int.not_lt, Int.not_le] at h15
    refine w_seq (fun K17 hK16 => ?_)
    refine w_region ?_
    refine w_pure want_none (y_move (v := .int _ _) rfl rfl) rfl ?_
    refine w_pure want_none (y_assign (v := _) rfl rfl) rfl ?_
    refine w_pure want_none (y_assign (v := _) rfl rfl) rfl ?_
    refine w_pure want_none (y_assign (v := .int _ _) rfl rfl) rfl ?_
    refine w_nil ?_
    refine q_then (hK16 _ _ ?_)
    refine w_ret ?_
    refine q_blk_ret ?_
    refine q_then_ret ?_
    refine q_ret (l := [.tmp 2, .tmp 3, .tmp 4]) (vs := [_, _, _]) rfl ⟨⟨rfl, show _ = (.int _ _ : Value) from rfl⟩, ⟨rfl, show _ = (.int _ _ : Value) from rfl⟩, ⟨rfl, show _ = (.int _ _ : Value) from rfl⟩, trivial⟩ ?_
    first
      | exact ⟨tup3 (early_e1 (by assumption)), hs10.tail⟩
      | exact ⟨tup3 (early_e2 (by assumption) (by assumption)), hs10.tail⟩
      | exact ⟨tup3 (hinv.trans (by rw [List.drop_of_length_le (by omega)]; rfl)), hs10.tail⟩
      | exact ⟨tup3 (hinv.trans (by rw [early_here hi2, hk, show (9 - kk).toNat = (9 - (kk + 1)).toNat + 1 by omega, earlyK_yes (by assumption)])), hs10.tail⟩
  ·
    try simp only [Bool.not_eq_true', Bool.not_eq_false', decide_eq_true_eq, decide_eq_false_iff_not, Int.not_lt, Int.not_le] at h15
    refine w_seq (fun K19 hK18 => ?_)
    have hok := check_ok (by assumption)
    have hlen3 := hok.len
    refine w_region ?_
    refine w_pure want_none (y_loadN (vs := [_, _, _, _]) Try.isAgg26 Try.sizeOf26 hs10 rfl rfl (ats_own (i := 0) (vs := [_, _, _, _]) rfl rfl)) rfl ?_
    refine w_call want_none Try.call58 rfl rfl rfl rfl (c58 p _ _ hs10) ?_
    rintro _ w21 ⟨m, pb, rfl, hs22⟩
    refine w_call want_none Try.call64 rfl rfl rfl rfl (c64 (F := _ :: _ :: _ :: F) p _ _ m pb (ats_own (i := 1) (vs := [_, _, _, _, _]) rfl rfl) ha.cons.cons.cons hok hs22) ?_
    rintro _ w24 ⟨rfl, hs25⟩
    refine w_pure want_none (y_assign (v := .bool _) rfl rfl) rfl ?_
    refine w_nil ?_
    refine q_then (hK18 _ _ ?_)
    refine w_cond rfl rfl (fun h26 => ?_) (fun h26 => ?_)
    ·
      try simp only [Bool.not_eq_true', Bool.not_eq_false', decide_eq_true_eq, decide_eq_false_iff_not, Int.not_lt, Int.not_le] at h26
      refine w_seq (fun K28 hK27 => ?_)
      refine w_region ?_
      refine w_pure want_none (y_assign (v := _) rfl rfl) rfl ?_
      refine w_pure want_none (y_assign (v := _) rfl rfl) rfl ?_
      refine w_pure want_none (y_assign (v := _) rfl rfl) rfl ?_
      refine w_nil ?_
      refine q_then (hK27 _ _ ?_)
      refine w_ret ?_
      refine q_blk_ret ?_
      refine q_then_ret ?_
      refine q_ret (l := [.tmp 2, .tmp 3, .tmp 4]) (vs := [_, _, _]) rfl ⟨⟨rfl, show _ = (.int _ _ : Value) from rfl⟩, ⟨rfl, show _ = (.int _ _ : Value) from rfl⟩, ⟨rfl, show _ = (.int _ _ : Value) from rfl⟩, trivial⟩ ?_
      first
        | exact ⟨tup3 (early_e1 (by assumption)), hs25.tail.tail.tail⟩
        | exact ⟨tup3 (early_e2 (by assumption) (by assumption)), hs25.tail.tail.tail⟩
        | exact ⟨tup3 (hinv.trans (by rw [List.drop_of_length_le (by omega)]; rfl)), hs25.tail.tail.tail⟩
        | exact ⟨tup3 (hinv.trans (by rw [early_here hi2, hk, show (9 - kk).toNat = (9 - (kk + 1)).toNat + 1 by omega, earlyK_yes (by assumption)])), hs25.tail.tail.tail⟩
    ·
      try simp only [Bool.not_eq_true', Bool.not_eq_false', decide_eq_true_eq, decide_eq_false_iff_not, Int.not_lt, Int.not_le] at h26
      refine w_skip ?_
      refine q_blk_normal ?_
      refine q_then (hK11 _ _ ?_)
      refine w_seq (fun K30 hK29 => ?_)
      refine w_seq (fun K32 hK31 => ?_)
      refine w_region ?_
      refine w_pure want_none (y_fieldAddr (o := 3) (i := 2) Try.underlying26 rfl Try.sizeOf24 rfl rfl rfl) rfl ?_
      refine w_pure want_none (y_load1 Try.isAgg24 hs25 rfl rfl (ats_own (i := 2) (vs := [_]) rfl rfl)) rfl ?_
      refine w_pure want_none (y_lenS Try.underlying24 rfl rfl) rfl ?_
      refine w_pure want_none (y_move (v := _) rfl rfl) rfl ?_
      refine w_nil ?_
      refine q_then (hK31 _ _ ?_)
      refine w_block ?_
      refine w_loop [2, 3, 4, 5, 6, 7, 25, 26, 27, 28, 29, 30, 31, 32, 33, 34, 35, 36, 37, 38, 39, 40, 41, 42, 43, 44, 45, 46, 47, 48, 49, 50, 51, 52, 53, 54, 55, 56, 57, 58, 59, 60, 61, 62, 63, 64] [25] (fun k vs w => ∃ i : Nat, vs = [.int .i64 i] ∧ i ≤ p.farms.length ∧ k = p.farms.length - i ∧ earlyD p = earlyFrom p i (p.farms.drop i) ∧ St w0 w ((b3, blk 26 (p.cells a c)) :: F)) (p.farms.length) ?_ ?_
      ·
        exact ⟨0, rfl, by omega, by omega, early_go (by assumption) (by assumption), hs25.tail.tail⟩
      ·
        intro k vs μ w35 hI K34 hN33
        obtain ⟨i, rfl, hia, rfl, hinv, hs⟩ := hI
        refine w_seq (fun K37 hK36 => ?_)
        refine w_region ?_
        refine w_pure want_none (y_lss rfl rfl rfl rfl) rfl ?_
        refine w_nil ?_
        refine q_then (hK36 _ _ ?_)
        refine w_seq (fun K39 hK38 => ?_)
        refine w_cond rfl rfl (fun h40 => ?_) (fun h40 => ?_)
        ·
          try simp only [Bool.not_eq_true', Bool.not_eq_false', decide_eq_true_eq, decide_eq_false_iff_not, Int.not_lt, Int.not_le] at h40
          refine w_skip ?_
          refine q_then (hK38 _ _ ?_)
          refine w_seq (fun K42 hK41 => ?_)
          refine w_block ?_
          refine w_seq (fun K44 hK43 => ?_)
          have hi2 : i < p.farms.length := by omega
          have hfo := hok.farm _ (List.getElem_mem hi2)
          unfold Farm.Ok at hfo
          refine w_region ?_
          refine w_pure want_none (y_move (v := .int _ _) rfl rfl) rfl ?_
          refine w_pure want_none (y_assign (v := .int _ _) rfl rfl) rfl ?_
          refine w_nil ?_
          refine q_then (hK43 _ _ ?_)
          refine w_seq (fun K46 hK45 => ?_)
          refine w_region ?_
          refine w_pure want_none (y_loadN (vs := [_, _, _, _]) Try.isAgg26 Try.sizeOf26 hs rfl rfl (ats_own (i := 0) (vs := [_, _, _, _]) rfl rfl)) rfl ?_
          refine w_alloc (cs := [_, _, _, _]) want_none Try.zeroValue26 rfl hs (fun b47 w48 hs49 => ?_)
          refine w_store (i := 0) (v := .agg #[.int _ _, .int _ _, .int _ _, .slice _ _ _]) (vs := [_, _, _, _]) want_none Try.sizeOf26 rfl rfl rfl rfl rfl (by simp [Value.oneCell']) hs49 rfl (Nat.le_of_ble_eq_true rfl) (fun w50 hs51 => ?_)
          refine w_nil ?_
          refine q_then (hK45 _ _ ?_)
          refine w_seq (fun K53 hK52 => ?_)
          refine w_region ?_
          refine w_pure want_none (y_fieldAddr (o := 3) (i := 2) Try.underlying26 rfl Try.sizeOf24 rfl rfl rfl) rfl ?_
          refine w_pure want_none (y_load1 Try.isAgg24 hs51 rfl rfl (ats_own (i := 1) (vs := [_]) rfl rfl)) rfl ?_
          refine w_call want_none Try.call65 rfl rfl rfl rfl (c65 _ _ p.farms (by omega) (by omega) ha.cons.cons hs51) ?_
          rintro _ w55 ⟨BC, hown, hs56⟩
          obtain ⟨bc, cap, cs0, rfl, rfl, hcap, hcl0, hcs0⟩ := own_some hown (by omega)
          replace hs56 := (show St _ _ (_ :: _ :: _ :: F) from hs56)
          refine w_pure want_none (y_fieldAddr (o := 3) (i := 2) Try.underlying26 rfl Try.sizeOf24 rfl rfl rfl) rfl ?_
          refine w_store (i := 1) (v := .slice _ _ _) (vs := [_]) want_none Try.sizeOf24 rfl rfl rfl rfl rfl (by simp [Value.oneCell']) hs56 rfl (Nat.le_of_ble_eq_true rfl) (fun w58 hs59 => ?_)
          refine w_nil ?_
          refine q_then (hK52 _ _ ?_)
          refine w_seq (fun K61 hK60 => ?_)
          refine w_region ?_
          refine w_pure want_none (y_fieldAddr (o := 3) (i := 2) Try.underlying26 rfl Try.sizeOf24 rfl rfl rfl) rfl ?_
          refine w_pure want_none (y_load1 Try.isAgg24 hs59 rfl rfl (ats_own (i := 1) (vs := [_]) rfl rfl)) rfl ?_
          refine w_pure want_none (y_move (v := .int _ _) rfl rfl) rfl ?_
          refine w_pure want_none (y_indexS Try.underlying24 Try.sizeOf60 rfl rfl rfl rfl (i := _) rfl (by omega)) rfl ?_
          refine w_pure want_none (y_assign (v := .pointer _) rfl rfl) rfl ?_
          refine w_nil ?_
          refine q_then (hK60 _ _ ?_)
          refine w_block ?_
          refine w_loop [2, 3, 4, 37, 38, 39, 40, 41, 42, 43, 44, 45, 46, 47, 48, 49, 50, 51, 52, 53, 54, 55, 56, 57, 58, 59, 60, 61, 62, 63] [] (fun k vs w => ∃ (kk : Int) (cs : List Value), vs = [] ∧ p.farms[i].keep ≤ kk ∧ kk ≤ 9 ∧ k = (9 - kk).toNat ∧ cs.length = cap * 6 ∧ cs.take (p.farms.length * 6) = (rows (setKeep p.farms i kk)).flatten ∧ earlyK p i (p.farms[i].keep + 1) (9 - p.farms[i].keep).toNat = earlyK p i (kk + 1) (9 - kk).toNat ∧ St w0 w ((bc, blk 60 cs) :: (b47, blk 26 [.int .i64 p.hold, .int .i64 p.clo, .int .i64 p.chi, .slice (some ⟨bc, 0, none⟩) p.farms.length cap]) :: (b3, blk 26 (p.cells a c)) :: F)) ((9 - p.farms[i].keep).toNat) ?_ ?_
          ·
            exact ⟨p.farms[i].keep, cs0, rfl, by omega, by omega, rfl, hcl0, (by rw [setKeep_same hi2]; exact hcs0), rfl, hs59⟩
          ·
            intro k vs μ w64 hI K63 hN62
            obtain ⟨kk, cs, rfl, hk0, hk9, rfl, hcl, hcs, hk, hs⟩ := hI
            have hrow := (sl_farm (sl_own_rows (w0 := w0) (L := (bc, blk 60 cs) :: (b47, blk 26 [.int .i64 p.hold, .int .i64 p.clo, .int .i64 p.chi, .slice (some ⟨bc, 0, none⟩) p.farms.length cap]) :: (b3, blk 26 (p.cells a c)) :: F) (i := 0) rfl (setKeep_len _ _ _) hcs) (i := i) (by rw [setKeep_len]; exact hi2))
            obtain ⟨bx, ox, hbx, hrow2⟩ := hrow
            cases hbx
            rw [setKeep_cells _ hi2] at hrow2
            refine w_seq (fun K66 hK65 => ?_)
            refine w_seq (fun K68 hK67 => ?_)
            refine w_region ?_
            refine w_pure want_none (y_move (v := .pointer _) rfl rfl) rfl ?_
            refine w_pure want_none (y_nilCheck rfl rfl) rfl ?_
            refine w_pure want_none (y_fieldAddr (o := 3) (i := 3) Try.underlying60 rfl Try.sizeOf3 rfl rfl rfl) rfl ?_
            refine w_pure want_none (y_load1 Try.isAgg3 hs rfl rfl (show Ats _ _ _ _ [_] from Ats.part hrow2 3 1)) rfl ?_
            refine w_pure want_none (y_lss rfl rfl rfl rfl) rfl ?_
            refine w_nil ?_
            refine q_then (hK67 _ _ ?_)
            refine w_cond rfl rfl (fun h69 => ?_) (fun h69 => ?_)
            ·
              try simp only [Bool.not_eq_true', Bool.not_eq_false', decide_eq_true_eq, decide_eq_false_iff_not, Int.not_lt, Int.not_le] at h69
              refine w_skip ?_
              refine q_then (hK65 _ _ ?_)
              refine w_block ?_
              refine w_seq (fun K71 hK70 => ?_)
              refine w_region ?_
              refine w_pure want_none (y_move (v := .pointer _) rfl rfl) rfl ?_
              refine w_pure want_none (y_nilCheck rfl rfl) rfl ?_
              refine w_pure want_none (y_fieldAddr (o := 3) (i := 3) Try.underlying60 rfl Try.sizeOf3 rfl rfl rfl) rfl ?_
              refine w_pure want_none (y_load1 Try.isAgg3 hs rfl rfl (show Ats _ _ _ _ [_] from Ats.part hrow2 3 1)) rfl ?_
              refine w_pure want_none (y_add rfl rfl rfl rfl (by omega) (by omega)) rfl ?_
              refine w_pure want_none (y_nilCheck rfl rfl) rfl ?_
              refine w_pure want_none (y_fieldAddr (o := 3) (i := 3) Try.underlying60 rfl Try.sizeOf3 rfl rfl rfl) rfl ?_
              refine w_store (i := 0) (v := .int _ _) (vs := [_]) want_none Try.sizeOf3 rfl rfl rfl rfl rfl (by simp [Value.oneCell']) hs rfl (show 0 + i * 6 + 3 + 1 ≤ cs.length by omega) (fun w72 hs73 => ?_)
              have hcs2 : (cs.set (i * 6 + 3) (.int .i64 (kk + 1))).take (p.farms.length * 6) = (rows (setKeep p.farms i (kk + 1))).flatten := by rw [← setKeep_set (k := kk)]; exact cells_set (setKeep_len _ _ _) hcs hi2
              have hcl2 : (cs.set (i * 6 + 3) (.int .i64 (kk + 1))).length = cap * 6 := by rw [List.length_set]; exact hcl
              replace hs73 := (show St _ _ ((bc, blk 60 (cs.set (i * 6 + 3) (.int .i64 (kk + 1)))) :: _ :: _ :: F) from (by have h6 := hs73; simp only [setMany, Nat.zero_add] at h6; exact h6))
              refine w_nil ?_
              refine q_then (hK70 _ _ ?_)
              refine w_seq (fun K75 hK74 => ?_)
              refine w_region ?_
              refine w_pure want_none (y_loadN (vs := [_, _, _, _]) Try.isAgg26 Try.sizeOf26 hs73 rfl rfl (ats_own (i := 1) (vs := [_, _, _, _]) rfl rfl)) rfl ?_
              refine w_call want_none Try.call58 rfl rfl rfl rfl (c58 p _ _ hs73) ?_
              rintro _ w77 ⟨m, pb, rfl, hs78⟩
              refine w_call want_none Try.call64 rfl rfl rfl rfl (c64 (F := _ :: _ :: _ :: _ :: _ :: F) (kept p i (kk + 1)) (some ⟨bc, 0, none⟩) cap m pb (show Ats w0 _ pb 0 [.int .i64 p.hold, .int .i64 p.clo, .int .i64 p.chi, .slice _ (setKeep p.farms i (kk + 1)).length cap, .map (some m)] from by rw [setKeep_len]; exact ats_own (i := 1) (vs := [_, _, _, _, _]) rfl rfl) (sl_own_rows (i := 2) rfl (setKeep_len _ _ _) hcs2) (kept_ok hok hi2 (by omega) (by omega)) hs78) ?_
              rintro _ w80 ⟨rfl, hs81⟩
              refine w_nil ?_
              refine q_then (hK74 _ _ ?_)
              refine w_cond rfl rfl (fun h82 => ?_) (fun h82 => ?_)
              ·
                try simp only [Bool.not_eq_true', Bool.not_eq_false', decide_eq_true_eq, decide_eq_false_iff_not, Int.not_lt, Int.not_le] at h82
                refine w_seq (fun K84 hK83 => ?_)
                have hrow := (sl_farm (sl_own_rows (w0 := w0) (L := (bc, blk 60 (cs.set (i * 6 + 3) (.int .i64 (kk + 1)))) :: (b47, blk 26 [.int .i64 p.hold, .int .i64 p.clo, .int .i64 p.chi, .slice (some ⟨bc, 0, none⟩) p.farms.length cap]) :: (b3, blk 26 (p.cells a c)) :: F) (i := 0) rfl (setKeep_len _ _ _) hcs2) (i := i) (by rw [setKeep_len]; exact hi2))
                obtain ⟨bx, ox, hbx, hrow2⟩ := hrow
                cases hbx
                rw [setKeep_cells _ hi2] at hrow2
                obtain ⟨by_, oy, rfl, hfar⟩ := sl_farm ha hi2
                refine w_draw [] [(0, 0), (1, 0), (2, 0), (3, 0), (4, 1), (5, 0), (6, 1), (7, 0), (8, 0), (9, 0), (10, 1), (11, 0), (12, 0), (13, 0), (14, 0)] Try_mo (by kernel_rfl) hs81 (fun w85 hs86 => ?_)
                refine d_any rfl want_none rfl (fun _ => (y_move (v := .int _ _) rfl rfl)) ?_
                refine d_any rfl want_none rfl (fun _ => (y_move (v := .pointer _) rfl rfl)) ?_
                refine d_any rfl want_none rfl (fun _ => (y_nilCheck rfl rfl)) ?_
                refine d_any rfl want_none rfl (fun _ => (y_fieldAddr (o := 3) (i := 3) Try.underlying60 rfl Try.sizeOf3 rfl rfl rfl)) ?_
                refine d_take rfl want_none rfl hs86 (fun _ hq => (y_load1 Try.isAgg3 hq.tail.tail rfl rfl (show Ats _ _ _ _ [_] from Ats.part hrow2 3 1))) ?_
                refine d_any rfl want_none rfl (fun _ => (y_fieldAddr (o := 3) (i := 2) Try.underlying26 rfl Try.sizeOf24 rfl rfl rfl)) ?_
                refine d_take rfl want_none rfl hs86 (fun _ hq => (y_load1 Try.isAgg24 hq rfl rfl (ats_own (i := 4) (vs := [_]) rfl rfl))) ?_
                refine d_any rfl want_none rfl (fun _ => (y_move (v := .int _ _) rfl rfl)) ?_
                refine d_any rfl want_none rfl (fun _ => (y_indexS Try.underlying24 Try.sizeOf60 rfl rfl rfl rfl (i := _) rfl (by omega))) ?_
                refine d_any rfl want_none rfl (fun _ => (y_fieldAddr (o := 3) (i := 3) Try.underlying60 rfl Try.sizeOf3 rfl rfl rfl)) ?_
                refine d_take rfl want_none rfl hs86 (fun _ hq => (y_load1 Try.isAgg3 hq.tail.tail.tail.tail.tail rfl rfl (show Ats _ _ _ _ [_] from Ats.part hfar 3 1))) ?_
                refine d_any rfl want_none rfl (fun _ => (y_sub rfl rfl rfl rfl (by omega) (by omega))) ?_
                refine d_any rfl want_none rfl (fun _ => (y_assign (v := .int _ _) rfl rfl)) ?_
                refine d_any rfl want_none rfl (fun _ => (y_assign (v := .int _ _) rfl rfl)) ?_
                refine d_any rfl want_none rfl (fun _ => (y_assign (v := _) rfl rfl)) ?_
                refine d_nil ?_
                refine q_then (hK83 _ _ ?_)
                refine w_ret ?_
                refine q_blk_ret ?_
                refine q_then_ret ?_
                refine q_blk_ret ?_
                refine q_blk_ret ?_
                refine q_then_ret ?_
                refine q_then_ret ?_
                refine q_blk_ret ?_
                refine q_then_ret ?_
                refine q_ret (l := [.tmp 2, .tmp 3, .tmp 4]) (vs := [_, _, _]) rfl ⟨⟨rfl, show _ = (.int _ _ : Value) from rfl⟩, ⟨rfl, show _ = (.int _ _ : Value) from rfl⟩, ⟨rfl, show _ = (.int _ _ : Value) from rfl⟩, trivial⟩ ?_
                first
                  | exact ⟨tup3 (early_e1 (by assumption)), hs86.tail.tail.tail.tail.tail⟩
                  | exact ⟨tup3 (early_e2 (by assumption) (by assumption)), hs86.tail.tail.tail.tail.tail⟩
                  | exact ⟨tup3 (hinv.trans (by rw [List.drop_of_length_le (by omega)]; rfl)), hs86.tail.tail.tail.tail.tail⟩
                  | exact ⟨tup3 (hinv.trans (by rw [early_here hi2, hk, show (9 - kk).toNat = (9 - (kk + 1)).toNat + 1 by omega, earlyK_yes (by assumption)])), hs86.tail.tail.tail.tail.tail⟩
              ·
                try simp only [Bool.not_eq_true', Bool.not_eq_false', decide_eq_true_eq, decide_eq_false_iff_not, Int.not_lt, Int.not_le] at h82
                refine w_skip ?_
                refine q_blk_normal ?_
                refine q_then (hN62 _ _ (Nx.intro ((9 - (kk + 1)).toNat) (by omega) (by repeat (first | exact agree_mix | refine agree_upd rfl ?_ | refine agree_updL rfl ?_ _ | refine agree_mixin rfl ?_)) ?_))
                exact ⟨kk + 1, _, rfl, by omega, by omega, rfl, hcl2, hcs2, (by rw [hk, show (9 - kk).toNat = (9 - (kk + 1)).toNat + 1 by omega]; exact earlyK_no (by assumption)), hs81.tail.tail⟩
            ·
              try simp only [Bool.not_eq_true', Bool.not_eq_false', decide_eq_true_eq, decide_eq_false_iff_not, Int.not_lt, Int.not_le] at h69
              refine w_exit ?_
              refine q_then_exit ?_
              refine q_then_exit ?_
              refine q_blk_this ?_
              refine q_blk_normal ?_
              refine q_then (hK41 _ _ ?_)
              refine w_region ?_
              refine w_pure want_none (y_add rfl rfl rfl rfl (by omega) (by omega)) rfl ?_
              refine w_pure want_none (y_move (v := .int _ _) rfl rfl) rfl ?_
              refine w_nil ?_
              refine q_then (hN33 _ _ (Nx.intro (p.farms.length - (i + 1)) (by omega) (by repeat (first | exact agree_mix | refine agree_upd rfl ?_ | refine agree_updL rfl ?_ _ | refine agree_mixin rfl ?_)) ?_))
              exact ⟨i + 1, rfl, by omega, rfl, (by rw [hinv, early_here hi2, hk, show (9 - kk).toNat = 0 by omega]; rfl), hs.tail.tail⟩
        ·
          try simp only [Bool.not_eq_true', Bool.not_eq_false', decide_eq_true_eq, decide_eq_false_iff_not, Int.not_lt, Int.not_le] at h40
          refine w_exit ?_
          refine q_then_exit ?_
          refine q_then_exit ?_
          refine q_blk_this ?_
          refine q_then (hK29 _ _ ?_)
          refine w_seq (fun K88 hK87 => ?_)
          refine w_region ?_
          refine w_pure want_none (y_assign (v := _) rfl rfl) rfl ?_
          refine w_pure want_none (y_assign (v := _) rfl rfl) rfl ?_
          refine w_pure want_none (y_assign (v := _) rfl rfl) rfl ?_
          refine w_nil ?_
          refine q_then (hK87 _ _ ?_)
          refine w_ret ?_
          refine q_ret (l := [.tmp 2, .tmp 3, .tmp 4]) (vs := [_, _, _]) rfl ⟨⟨rfl, show _ = (.int _ _ : Value) from rfl⟩, ⟨rfl, show _ = (.int _ _ : Value) from rfl⟩, ⟨rfl, show _ = (.int _ _ : Value) from rfl⟩, trivial⟩ ?_
          first
            | exact ⟨tup3 (early_e1 (by assumption)), hs.tail⟩
            | exact ⟨tup3 (early_e2 (by assumption) (by assumption)), hs.tail⟩
            | exact ⟨tup3 (hinv.trans (by rw [List.drop_of_length_le (by omega)]; rfl)), hs.tail⟩
            | exact ⟨tup3 (hinv.trans (by rw [early_here hi2, hk, show (9 - kk).toNat = (9 - (kk + 1)).toNat + 1 by omega, earlyK_yes (by assumption)])), hs.tail⟩

end Go.Proofs
