/- Own texts of this claim, joined. No conditions. -/
import Derived.Test.YtiemgahjdgajmaaHHandEasiera
import Derived.Test.YtiemgahjdgajmaaHHandEasierb
import Derived.Test.YtiemgahjdgajmaaHHandEasierc
import Derived.Test.YtiemgahjdgajmaaHHandEasierd
import Derived.Test.YtiemgahjdgajmaaHHandEasiere
import Derived.Test.YtiemgahjdgajmaaHHandEasierf
import Derived.Test.YtiemgahjdgajmaaHHandEasierg
/- Walks of this seat, printed by gen.py over the engine: what each function returns, in whatever world. No conditions but those of each contract. -/
set_option linter.unusedVariables false
set_option linter.unusedSimpArgs false
set_option maxRecDepth 20000
namespace Go.Proofs
open Go.Rt Go.Rt.Ha
attribute [local irreducible] WL WC Con Yd At Ats Sl Agree DW
theorem Try_Zg_fb6  (w : World) : (Instr.buildSlice 22 0 [].toArray).run Try.prog w = .ok (.slice (some ⟨w.heap.size, 0, none⟩) 0 0) (w.alloc (Go.Rt.blk 79 [])) := by kernel_rfl
theorem Try_info79 : Try.prog.info? 79 = some Try.t79 := by kernel_rfl
theorem Try_Zg_fb8  (w : World) : (Instr.buildSlice 23 0 [].toArray).run Try.prog w = .ok (.slice (some ⟨w.heap.size, 0, none⟩) 0 0) (w.alloc (Go.Rt.blk 81 [])) := by kernel_rfl
theorem Try_info81 : Try.prog.info? 81 = some Try.t81 := by kernel_rfl
theorem row_of {α : Type} {row : α → List Value} {w0 w : World} {L : List (Nat × Obj)} {i b n j sz : Nat} {t : TypeId} {cs : List Value} {l : List α} (_hs : St w0 w L) (hi : L[i]? = some (b, blk t cs)) (hr : ∀ x, (row x).length = sz) (hn : l.length = n) (h : cs.take (n * sz) = (l.map row).flatten) (hj : j < l.length) : Ats w0 L b (0 + j * sz) (row l[j]) := by
  have h1 : Sl w0 L (some ⟨b, 0, none⟩) sz (l.map row) := sl_own hi (by intro x hx; obtain ⟨q, _, rfl⟩ := List.mem_map.1 hx; exact hr q) (by rw [List.length_map, hn]; exact h)
  obtain ⟨b2, off, ha, _, hat⟩ := h1.at (i := j) (row := row l[j]) (by simp [hj])
  cases ha
  exact hat
theorem grows_row (m : List Grade) : ∀ row ∈ grows m, row.length = 3 := by intro row h; obtain ⟨q, _, rfl⟩ := List.mem_map.1 h; rfl
theorem brows_row (m : List Bunch) : ∀ row ∈ brows m, row.length = 4 := by intro row h; obtain ⟨q, _, rfl⟩ := List.mem_map.1 h; rfl
theorem grows_one (m : List Grade) : ∀ row ∈ grows m, ∀ u ∈ row, u.oneCell' = true := by
  intro row hr u hu
  obtain ⟨c, _, rfl⟩ := List.mem_map.1 hr
  simp only [Grade.cells, List.mem_cons, List.not_mem_nil, or_false] at hu
  rcases hu with rfl | rfl | rfl <;> rfl
theorem brows_one (m : List Bunch) : ∀ row ∈ brows m, ∀ u ∈ row, u.oneCell' = true := by
  intro row hr u hu
  obtain ⟨c, _, rfl⟩ := List.mem_map.1 hr
  simp only [Bunch.cells, List.mem_cons, List.not_mem_nil, or_false] at hu
  rcases hu with rfl | rfl | rfl | rfl <;> rfl
theorem own_cells {t : TypeId} {b n cap sz : Nat} {cs xs : List Value} (h : Rt.Own (.slice (some ⟨b, 0, none⟩) n cap) t sz n xs [(b, blk t cs)]) : cs.take (n * sz) = xs := by
  rcases h.2 with ⟨h2, _⟩ | ⟨b2, cap2, cs2, h2, h3, h4, _, _, h5⟩
  · injection h2 with e1; cases e1
  · injection h3 with e1 _
    injection e1 with _ e2
    have e3 : cs = cs2 := by simpa [blk] using e2
    rw [e3]; exact h5
theorem c14 {w0 w : World} {F : List (Nat × Obj)} (l : Lot) (p : At3) (hm : LIn w0 F l p) (hnG : p.ag = none → p.cg = 0) (hnB : p.ab = none → p.cb = 0) (hnC : p.ac = none → p.cc = 0) (e0 e1 e2 e3 : Int) (he0 : 0 ≤ e0 ∧ e0 ≤ 255) (he1 : 0 ≤ e1 ∧ e1 ≤ 255) (he2 : 0 ≤ e2 ∧ e2 ≤ 255) (he3 : 0 ≤ e3 ∧ e3 ≤ 255) (hs : St w0 w F) :
  Con Try.prog 14 [.agg (l.cells p).toArray, .agg #[.int .u8 e0, .int .u8 e1, .int .u8 e2, .int .u8 e3]] w fun v w' => v = .bool true ∧ St w0 w' F := by
  refine con_of_wc (n := 177) Try.func14 rfl rfl (Nat.le_of_ble_eq_true rfl) ?_
  refine w_seq (fun K2 hK1 => ?_)
  refine w_region ?_
  refine w_box (v := .agg #[.slice _ _ _, .slice _ _ _, .slice _ _ _]) (cs := [_, _, _]) want_none rfl rfl rfl hs (fun b3 w4 hs5 => ?_)
  refine w_box (v := .agg #[.int _ _, .int _ _, .int _ _, .int _ _]) (cs := [_, _, _, _]) want_none rfl rfl rfl hs5 (fun b6 w7 hs8 => ?_)
  refine w_pure want_none (y_assign (v := _) rfl rfl) rfl ?_
  refine w_nil ?_
  refine q_then (hK1 _ _ ?_)
  refine w_seq (fun K10 hK9 => ?_)
  refine w_seq (fun K12 hK11 => ?_)
  refine w_region ?_
  refine w_pure want_none (y_loadN (vs := [_, _, _]) Try.isAgg26 Try.sizeOf26 hs8 rfl rfl (ats_own (i := 1) (vs := [_, _, _]) rfl rfl)) rfl ?_
  refine w_call want_none Try.call44 rfl rfl rfl rfl (c44 l _ hm.cons.cons hs8) ?_
  rintro _ w14 ⟨rfl, hs15⟩
  refine w_pure want_none (y_not rfl rfl) rfl ?_
  refine w_nil ?_
  refine q_then (hK11 _ _ ?_)
  refine w_cond rfl rfl (fun h16 => ?_) (fun h16 => ?_)
  ·
   try simp only [Bool.not_eq_true', Bool.not_eq_false', decide_eq_true_eq, decide_eq_false_iff_not, Int.not_lt, Int.not_le] at h16
   refine w_seq (fun K18 hK17 => ?_)
   refine w_region ?_
   refine w_call want_none Try.call20 rfl rfl rfl rfl (c20 hs15) ?_
   rintro _ w20 ⟨rfl, hs21⟩
   refine w_pure want_none (y_assign (v := .bool _) rfl rfl) rfl ?_
   refine w_nil ?_
   refine q_then (hK17 _ _ ?_)
   refine w_ret ?_
   refine q_then_ret ?_
   refine q_ret (l := [.tmp 4]) (vs := [_]) rfl ⟨⟨rfl, show _ = (.bool _ : Value) from rfl⟩, trivial⟩ ?_
   exact ⟨rfl, hs21.tail.tail⟩
  ·
   try simp only [Bool.not_eq_true', Bool.not_eq_false', decide_eq_true_eq, decide_eq_false_iff_not, Int.not_lt, Int.not_le] at h16
   refine w_skip ?_
   refine q_then (hK9 _ _ ?_)
   refine w_seq (fun K23 hK22 => ?_)
   have h1 : (check l).2.2 = 0 ∧ Ha.ways l 0 ≠ [] := by assumption
   have hok := check_ok h1.1
   have hlg := hok.lg
   have hlb := hok.lb
   have h0 : 0 < l.grades.length := by omega
   have hgr := (failE_iff.1 (check_iff.1 h1.1).1).2 (l.grades.length - 1) (by omega)
   have hgi := (gradeE_iff.1 hgr).2.1
   refine w_region ?_
   refine w_pure want_none (y_loadN (vs := [_, _, _]) Try.isAgg26 Try.sizeOf26 hs15 rfl rfl (ats_own (i := 1) (vs := [_, _, _]) rfl rfl)) rfl ?_
   refine w_alloc (cs := [_, _, _]) want_none Try.zeroValue26 rfl hs15 (fun b24 w25 hs26 => ?_)
   refine w_store (i := 0) (v := .agg #[.slice _ _ _, .slice _ _ _, .slice _ _ _]) (vs := [_, _, _]) want_none Try.sizeOf26 rfl rfl rfl rfl rfl (by simp [Value.oneCell']) hs26 rfl (Nat.le_of_ble_eq_true rfl) (fun w27 hs28 => ?_)
   refine w_nil ?_
   refine q_then (hK22 _ _ ?_)
   refine w_seq (fun K30 hK29 => ?_)
   refine w_region ?_
   refine w_bslice (ps := []) (pv := []) (cs := []) want_none rfl rfl (fun w => Try_Zg_fb6  w) hs28 (fun b31 w32 hs33 => ?_)
   refine w_pure want_none (y_fieldAddr (o := 0) (i := 0) Try.underlying26 rfl Try.sizeOf22 rfl rfl rfl) rfl ?_
   refine w_pure want_none (y_load1 Try.isAgg22 hs33 rfl rfl (ats_own (i := 3) (vs := [_]) rfl rfl)) rfl ?_
   refine w_append (X := ([])) (B := [_]) (rows := (grows l.grades)) (sz := 3) (bytes := 32) want_none Try.underlying22 Try_info79 rfl rfl rfl rfl rfl rfl rfl rfl rfl hs33 own_made hm.g.cons.cons.cons.cons (by simp [grows, brows]) hnG (grows_one _) (by simp only [maxLen]; omega) (by omega) (fun v34 w35 B36 ho37 hs38 => ?_)
   replace hs38 := (show St _ _ (B36 ++ (_ :: _ :: _ :: F)) from hs38)
   have hAG : Rt.Own v34 79 3 l.grades.length (grows l.grades).flatten B36 := by
     have h9 := ho37
     rw [Nat.zero_add, List.nil_append] at h9
     exact h9
   obtain ⟨bG, capG, csG, rfl, hBG, h1G, h2G, h3G, h4G⟩ := own_some hAG (by omega)
   subst hBG
   replace hs38 := (show St _ _ (_ :: _ :: _ :: _ :: F) from hs38)
   refine w_pure want_none (y_fieldAddr (o := 0) (i := 0) Try.underlying26 rfl Try.sizeOf22 rfl rfl rfl) rfl ?_
   refine w_store (i := 1) (v := .slice _ _ _) (vs := [_]) want_none Try.sizeOf22 rfl rfl rfl rfl rfl (by simp [Value.oneCell']) hs38 rfl (Nat.le_of_ble_eq_true rfl) (fun w39 hs40 => ?_)
   refine w_nil ?_
   refine q_then (hK29 _ _ ?_)
   refine w_seq (fun K42 hK41 => ?_)
   refine w_region ?_
   have hgl : l.grades.length - 1 < l.grades.length := by omega
   have hrG := row_of (row := Grade.cells) (i := 0) hs40 rfl (fun _ => rfl) rfl h4G hgl
   refine w_pure want_none (y_fieldAddr (o := 0) (i := 0) Try.underlying26 rfl Try.sizeOf22 rfl rfl rfl) rfl ?_
   refine w_pure want_none (y_load1 Try.isAgg22 hs40 rfl rfl (ats_own (i := 1) (vs := [_]) rfl rfl)) rfl ?_
   refine w_pure want_none (y_fieldAddr (o := 0) (i := 0) Try.underlying26 rfl Try.sizeOf22 rfl rfl rfl) rfl ?_
   refine w_pure want_none (y_load1 Try.isAgg22 hs40 rfl rfl (ats_own (i := 3) (vs := [_]) rfl rfl)) rfl ?_
   refine w_pure want_none (y_lenS Try.underlying22 rfl rfl) rfl ?_
   refine w_pure want_none (y_sub rfl rfl rfl rfl (by omega) (by omega)) rfl ?_
   refine w_pure want_none (y_indexS Try.underlying22 Try.sizeOf79 rfl rfl rfl rfl (i := l.grades.length - 1) (by omega) (by omega)) rfl ?_
   refine w_pure want_none (y_loadN (vs := [_, _, _]) Try.isAgg79 Try.sizeOf79 hs40 rfl rfl hrG) rfl ?_
   refine w_alloc (cs := [_, _, _]) want_none Try.zeroValue79 rfl hs40 (fun b43 w44 hs45 => ?_)
   refine w_store (i := 0) (v := .agg #[.string _, .int _ _, .int _ _]) (vs := [_, _, _]) want_none Try.sizeOf79 rfl rfl rfl rfl rfl (by simp [Value.oneCell']) hs45 rfl (Nat.le_of_ble_eq_true rfl) (fun w46 hs47 => ?_)
   refine w_nil ?_
   refine q_then (hK41 _ _ ?_)
   refine w_seq (fun K49 hK48 => ?_)
   refine w_drawD (C0 := fun w => St w0 w _) (C := fun w => ∃ c : Int, St w0 w ((b43, blk 79 [.string (l.grades[l.grades.length - 1]'hgl).name, .int .i64 c, .int .i64 (l.grades[l.grades.length - 1]'hgl).scars]) :: (bG, blk 79 csG) :: (b24, blk 26 [.slice (some ⟨bG, 0, none⟩) l.grades.length capG, .slice p.ab l.bunches.length p.cb, .slice p.ac l.counts.length p.cc]) :: (b6, blk 77 [.int .u8 e0, .int .u8 e1, .int .u8 e2, .int .u8 e3]) :: (b3, blk 26 (l.cells p)) :: F)) [19] [(0, 0), (2, 0), (3, 1), (4, 0), (5, 0), (8, 0), (9, 1), (10, 0), (11, 1), (12, 0), (13, 0), (14, 0), (15, 0), (1, 2), (6, 0), (7, 0), (16, 0), (17, 2), (18, 0), (19, 3)] Try_mo (drawOK_of (by kernel_rfl)) hs47 (fun _ h => ⟨_, h⟩) (fun _ h => h.drew) (fun w50 hs51 => ?_)
   refine d_any rfl want_none rfl (fun _ => (y_fieldAddr (o := 1) (i := 1) Try.underlying79 rfl Try.sizeOf3 rfl rfl rfl)) ?_
   refine d_any rfl want_none rfl (fun _ => (y_indexA Try.underlying77 Try.sizeOf5 rfl rfl rfl rfl (i := 0) rfl (by omega))) ?_
   refine d_takeC rfl want_none rfl ⟨_, hs51⟩ (fun _ ⟨c6, hq⟩ => (y_load1 Try.isAgg5 hq rfl rfl (ats_own (i := 3) (vs := [_]) rfl rfl))) ?_
   refine d_any rfl want_none rfl (fun _ => (y_u8int (by rw [Try.underlying5]; rfl) Try.underlying3 rfl rfl (by omega) (by omega))) ?_
   refine d_any rfl want_none rfl (fun _ => (y_rem rfl rfl rfl rfl (by omega) (by omega))) ?_
   refine d_any rfl want_none rfl (fun _ => (y_fieldAddr (o := 2) (i := 2) Try.underlying79 rfl Try.sizeOf3 rfl rfl rfl)) ?_
   refine d_takeC rfl want_none rfl ⟨_, hs51⟩ (fun _ ⟨c6, hq⟩ => (y_load1 Try.isAgg3 hq rfl rfl (ats_own (i := 0) (vs := [_]) rfl rfl))) ?_
   refine d_any rfl want_none rfl (fun _ => (y_indexA Try.underlying77 Try.sizeOf5 rfl rfl rfl rfl (i := 1) rfl (by omega))) ?_
   refine d_takeC rfl want_none rfl ⟨_, hs51⟩ (fun _ ⟨c6, hq⟩ => (y_load1 Try.isAgg5 hq rfl rfl (ats_own (i := 3) (vs := [_]) rfl rfl))) ?_
   refine d_any rfl want_none rfl (fun _ => (y_u8int (by rw [Try.underlying5]; rfl) Try.underlying3 rfl rfl (by omega) (by omega))) ?_
   refine d_any rfl want_none rfl (fun _ => (y_rem rfl rfl rfl rfl (by omega) (by omega))) ?_
   refine d_any rfl want_none rfl (fun _ => (y_add rfl rfl rfl rfl (by omega) (by omega))) ?_
   refine d_any rfl want_none rfl (fun _ => (y_min2 rfl rfl rfl rfl)) ?_
   refine d_eff rfl ?_
   refine w_pure want_none (y_load1 Try.isAgg3 hs51 rfl rfl (ats_own (i := 0) (vs := [_]) rfl rfl)) rfl ?_
   refine w_nil ?_
   refine qn ⟨⟨_, hs51⟩, ?_⟩
   refine d_any rfl want_none rfl (fun _ => (y_sub rfl rfl rfl rfl (by omega) (by omega))) ?_
   refine d_any rfl want_none rfl (fun _ => (y_max2 rfl rfl rfl rfl)) ?_
   refine d_any rfl want_none rfl (fun _ => (y_fieldAddr (o := 1) (i := 1) Try.underlying79 rfl Try.sizeOf3 rfl rfl rfl)) ?_
   refine d_eff rfl ?_
   refine w_store (i := 0) (v := .int _ _) (vs := [_]) want_none Try.sizeOf3 rfl rfl rfl rfl rfl (by simp [Value.oneCell']) hs51 rfl (Nat.le_of_ble_eq_true rfl) (fun w52 hs53 => ?_)
   refine w_nil ?_
   refine qn ⟨⟨_, hs53⟩, ?_⟩
   refine d_any rfl want_none rfl (fun _ => (y_fieldAddr (o := 2) (i := 2) Try.underlying79 rfl Try.sizeOf3 rfl rfl rfl)) ?_
   refine d_late rfl ?_
   refine w_store (i := 0) (v := .int _ _) (vs := [_]) want_none Try.sizeOf3 rfl rfl rfl rfl rfl (by simp [Value.oneCell']) hs53 rfl (Nat.le_of_ble_eq_true rfl) (fun w54 hs55 => ?_)
   refine w_nil ?_
   refine qn ?_
   refine d_nil ?_
   refine q_then (hK48 _ _ ?_)
   refine w_seq (fun K57 hK56 => ?_)
   refine w_region ?_
   refine w_pure want_none (y_fieldAddr (o := 0) (i := 0) Try.underlying26 rfl Try.sizeOf22 rfl rfl rfl) rfl ?_
   refine w_pure want_none (y_load1 Try.isAgg22 hs55 rfl rfl (ats_own (i := 2) (vs := [_]) rfl rfl)) rfl ?_
   refine w_pure want_none (y_fieldAddr (o := 0) (i := 0) Try.underlying26 rfl Try.sizeOf22 rfl rfl rfl) rfl ?_
   refine w_pure want_none (y_load1 Try.isAgg22 hs55 rfl rfl (ats_own (i := 4) (vs := [_]) rfl rfl)) rfl ?_
   refine w_pure want_none (y_lenS Try.underlying22 rfl rfl) rfl ?_
   refine w_pure want_none (y_sub rfl rfl rfl rfl (by omega) (by omega)) rfl ?_
   refine w_pure want_none (y_loadN (vs := [_, _, _]) Try.isAgg79 Try.sizeOf79 hs55 rfl rfl (ats_own (i := 0) (vs := [_, _, _]) rfl rfl)) rfl ?_
   refine w_pure want_none (y_indexS Try.underlying22 Try.sizeOf79 rfl rfl rfl rfl (i := l.grades.length - 1) (by omega) (by omega)) rfl ?_
   refine w_store (i := 1) (v := .agg #[_, _, _]) (vs := [_, _, _]) want_none Try.sizeOf79 rfl rfl rfl rfl rfl (by simp [Value.oneCell']) hs55 rfl (show 0 + (l.grades.length - 1) * 3 + 3 ≤ csG.length by omega) (fun w58 hs59 => ?_)
   replace hs59 := (show St _ _ (_ :: (bG, blk 79 (setMany csG ((l.grades.length - 1) * 3) (easG e0 e1 (l.grades[l.grades.length - 1]'hgl)).cells)) :: _ :: _ :: _ :: F) from (by have h6 := hs59; simp only [Nat.zero_add] at h6; exact h6))
   refine w_nil ?_
   refine q_then (hK56 _ _ ?_)
   refine w_seq (fun K61 hK60 => ?_)
   have hcA : (easL l e0 e1 h0).cells (⟨some ⟨bG, 0, none⟩, capG, p.ab, p.cb, p.ac, p.cc⟩ : At3) = [.slice (some ⟨bG, 0, none⟩) l.grades.length capG, .slice p.ab l.bunches.length p.cb, .slice p.ac l.counts.length p.cc] := by simp [Lot.cells, easL]
   have hoG := own_put (row := Grade.cells) (t := 79) (b := bG) (y := easG e0 e1 (l.grades[l.grades.length - 1]'hgl)) (fun _ => rfl) hgl rfl h1G h2G h3G h4G
   have r9 := own_rows1 (w0 := w0) (rows := grows (l.grades.set (l.grades.length - 1) (easG e0 e1 (l.grades[l.grades.length - 1]'hgl)))) hoG (grows_row _) (by simp [grows])
   obtain ⟨Z, hZ, hsZ⟩ := gen_Z hs59
   have hb2 : Ats w0 Z b3 0 (l.cells p) := by rw [hZ]; exact ats_of (i := 4) (vs := l.cells p) hs59 rfl rfl
   have hb3 : Ats w0 Z b6 0 [.int .u8 e0, .int .u8 e1, .int .u8 e2, .int .u8 e3] := by rw [hZ]; exact ats_of (i := 3) (vs := [_, _, _, _]) hs59 rfl rfl
   have hb5 : Ats w0 Z b24 0 ((easL l e0 e1 h0).cells (⟨some ⟨bG, 0, none⟩, capG, p.ab, p.cb, p.ac, p.cc⟩ : At3)) := by rw [hZ]; rw [hcA]; exact ats_of (i := 2) (vs := [.slice (some ⟨bG, 0, none⟩) l.grades.length capG, .slice p.ab l.bunches.length p.cb, .slice p.ac l.counts.length p.cc]) hs59 rfl rfl
   have hmZ : LIn w0 Z l p := by rw [hZ]; exact hm.cons.cons.cons.cons.cons
   have hsE : Sl w0 Z (some ⟨bG, 0, none⟩) 3 (grows (l.grades.set (l.grades.length - 1) (easG e0 e1 (l.grades[l.grades.length - 1]'hgl)))) := by rw [hZ]; exact sl_own (i := 1) rfl (grows_row _) (by rw [show (grows (l.grades.set (l.grades.length - 1) (easG e0 e1 (l.grades[l.grades.length - 1]'hgl)))).length = l.grades.length by simp [grows]]; exact own_cells hoG)
   have hmE : LIn w0 Z (easL l e0 e1 h0) (⟨some ⟨bG, 0, none⟩, capG, p.ab, p.cb, p.ac, p.cc⟩ : At3) := ⟨hsE, hmZ.b, hmZ.c, (by show (l.grades.set _ _).length ≤ _; rw [List.length_set]; exact hm.lg), hm.lb, hm.lc, (by show (l.grades.set _ _).length ≤ capG; rw [List.length_set]; exact h1G), hm.cb, hm.cc, (fun y hy => by rcases List.mem_or_eq_of_mem_set hy with h | h; exact hm.ng y h; rw [h]; exact (show (l.grades[l.grades.length - 1]'hgl).name.size ≤ 9223372036854775807 from hm.ng _ (List.getElem_mem hgl)))⟩
   have hE := eas_law h1.1 h1.2 (a := e0) (b := e1) he0.1 he1.1 h0
   have hrs := ref_sh l
   have hrs2 := ref_sh (easL l e0 e1 h0)
   refine w_region ?_
   refine w_pure want_none (y_loadN (vs := [_, _, _]) Try.isAgg26 Try.sizeOf26 hsZ rfl rfl hb2) rfl ?_
   refine w_call want_none Try.call28 rfl rfl rfl rfl (c28 l _ hmZ hsZ) ?_
   rintro _ w63 ⟨B1, a1, c1, a12, c12, rfl, hq1, hr1, hs64⟩
   replace hs64 := (show St _ _ (B1 ++ (Z)) from hs64)
   refine w_pure want_none (y_move (v := .tuple _) rfl rfl) rfl ?_
   refine w_pure want_none (y_extract (v := .slice _ _ _) rfl rfl rfl) rfl ?_
   refine w_pure want_none (y_extract (v := .slice _ _ _) rfl rfl rfl) rfl ?_
   refine w_pure want_none (y_extract (v := .int _ _) rfl rfl rfl) rfl ?_
   refine w_pure want_none (y_assign (v := .slice _ _ _) rfl rfl) rfl ?_
   refine w_pure want_none (y_assign (v := .slice _ _ _) rfl rfl) rfl ?_
   refine w_pure want_none (y_assign (v := .int _ _) rfl rfl) rfl ?_
   refine w_nil ?_
   refine q_then (hK60 _ _ ?_)
   refine w_seq (fun K66 hK65 => ?_)
   refine w_region ?_
   refine w_pure want_none (y_loadN (vs := [_, _, _]) Try.isAgg26 Try.sizeOf26 hs64.drop rfl rfl hb5) rfl ?_
   refine w_call want_none Try.call28 rfl rfl rfl rfl (c28 (easL l e0 e1 h0) _ hmE.app hs64) ?_
   rintro _ w68 ⟨B2, a2, c2, a22, c22, rfl, hq2, hr2, hs69⟩
   replace hs69 := (show St _ _ (B2 ++ (B1 ++ (Z))) from hs69)
   refine w_pure want_none (y_move (v := .tuple _) rfl rfl) rfl ?_
   refine w_pure want_none (y_extract (v := .slice _ _ _) rfl rfl rfl) rfl ?_
   refine w_pure want_none (y_extract (v := .slice _ _ _) rfl rfl rfl) rfl ?_
   refine w_pure want_none (y_extract (v := .int _ _) rfl rfl rfl) rfl ?_
   refine w_pure want_none (y_assign (v := .slice _ _ _) rfl rfl) rfl ?_
   refine w_pure want_none (y_assign (v := .slice _ _ _) rfl rfl) rfl ?_
   refine w_pure want_none (y_assign (v := .int _ _) rfl rfl) rfl ?_
   refine w_nil ?_
   refine q_then (hK65 _ _ ?_)
   refine w_seq (fun K71 hK70 => ?_)
   refine w_seq (fun K73 hK72 => ?_)
   refine w_region ?_
   refine w_pure want_none (y_move (v := .int _ _) rfl rfl) rfl ?_
   refine w_pure want_none (y_neq rfl rfl rfl rfl) rfl ?_
   refine w_pure want_none (y_move (v := .bool _) rfl rfl) rfl ?_
   refine w_split (fun h74 => ?_) (fun h74 => ?_)
   ·
    exfalso
    try simp only [Bool.not_eq_true', Bool.not_eq_false', decide_eq_true_eq, decide_eq_false_iff_not, Int.not_lt, Int.not_le] at h74
    rw [hE.e1] at h74; simp at h74
   ·
    try simp only [Bool.not_eq_true', Bool.not_eq_false', decide_eq_true_eq, decide_eq_false_iff_not, Int.not_lt, Int.not_le] at h74
    refine w_pure (want_yes rfl rfl rfl) (y_move (v := .int _ _) rfl rfl) rfl ?_
    refine w_pure (want_yes rfl rfl rfl) (y_neq rfl rfl rfl rfl) rfl ?_
    refine w_pure want_none (y_pickF (v := .bool _) rfl rfl rfl rfl) rfl ?_
    refine w_pure want_none (y_move (v := .bool _) rfl rfl) rfl ?_
    refine w_split (fun h75 => ?_) (fun h75 => ?_)
    ·
     exfalso
     try simp only [Bool.not_eq_true', Bool.not_eq_false', decide_eq_true_eq, decide_eq_false_iff_not, Int.not_lt, Int.not_le] at h75
     rw [hE.e2] at h75; simp at h75
    ·
     try simp only [Bool.not_eq_true', Bool.not_eq_false', decide_eq_true_eq, decide_eq_false_iff_not, Int.not_lt, Int.not_le] at h75
     refine w_pure (want_yes rfl rfl rfl) (y_move (v := .slice _ _ _) rfl rfl) rfl ?_
     refine w_pure (want_yes rfl rfl rfl) (y_move (v := .slice _ _ _) rfl rfl) rfl ?_
     refine w_call (want_yes rfl rfl rfl) Try.call54 rfl rfl rfl rfl (c54 _ _ (refusedP (easL l e0 e1 h0)).1 (refusedP l).1 _ _ (by omega) (by omega) hq2.top hq1.top.app hs69) ?_
     rintro _ w77 ⟨rfl, hs78⟩
     refine w_pure (want_yes rfl rfl rfl) (y_not rfl rfl) rfl ?_
     refine w_pure want_none (y_pickF (v := .bool _) rfl rfl rfl rfl) rfl ?_
     refine w_pure want_none (y_move (v := .bool _) rfl rfl) rfl ?_
     refine w_split (fun h79 => ?_) (fun h79 => ?_)
     ·
      exfalso
      try simp only [Bool.not_eq_true', Bool.not_eq_false', decide_eq_true_eq, decide_eq_false_iff_not, Int.not_lt, Int.not_le] at h79
      rw [List.all_eq_true.2 (fun z hz => hasI_mem.2 (hE.sure z hz))] at h79; simp at h79
     ·
      try simp only [Bool.not_eq_true', Bool.not_eq_false', decide_eq_true_eq, decide_eq_false_iff_not, Int.not_lt, Int.not_le] at h79
      refine w_pure (want_yes rfl rfl rfl) (y_move (v := .slice _ _ _) rfl rfl) rfl ?_
      refine w_pure (want_yes rfl rfl rfl) (y_move (v := .slice _ _ _) rfl rfl) rfl ?_
      refine w_call (want_yes rfl rfl rfl) Try.call54 rfl rfl rfl rfl (c54 _ _ (refusedP (easL l e0 e1 h0)).2.1 (refusedP l).2.1 _ _ (by omega) (by omega) hr2.top hr1.top.app hs78) ?_
      rintro _ w81 ⟨rfl, hs82⟩
      refine w_pure (want_yes rfl rfl rfl) (y_not rfl rfl) rfl ?_
      refine w_pure want_none (y_pickF (v := .bool _) rfl rfl rfl rfl) rfl ?_
      refine w_nil ?_
      refine q_then (hK72 _ _ ?_)
      refine w_cond rfl rfl (fun h83 => ?_) (fun h83 => ?_)
      ·
       exfalso
       try simp only [Bool.not_eq_true', Bool.not_eq_false', decide_eq_true_eq, decide_eq_false_iff_not, Int.not_lt, Int.not_le] at h83
       rw [List.all_eq_true.2 (fun z hz => hasI_mem.2 (hE.may z hz))] at h83; simp at h83
      ·
       try simp only [Bool.not_eq_true', Bool.not_eq_false', decide_eq_true_eq, decide_eq_false_iff_not, Int.not_lt, Int.not_le] at h83
       refine w_skip ?_
       refine q_then (hK70 _ _ ?_)
       refine w_seq (fun K85 hK84 => ?_)
       refine w_seq (fun K87 hK86 => ?_)
       refine w_region ?_
       refine w_pure want_none (y_fieldAddr (o := 1) (i := 1) Try.underlying26 rfl Try.sizeOf23 rfl rfl rfl) rfl ?_
       refine w_pure want_none (y_load1 Try.isAgg23 hs82.drop.drop rfl rfl (show Ats _ _ _ _ [_] from Ats.part hb2 1 1)) rfl ?_
       refine w_pure want_none (y_lenS Try.underlying23 rfl rfl) rfl ?_
       refine w_pure want_none (y_eql rfl rfl rfl rfl) rfl ?_
       refine w_nil ?_
       refine q_then (hK86 _ _ ?_)
       refine w_cond rfl rfl (fun h88 => ?_) (fun h88 => ?_)
       ·
        try simp only [Bool.not_eq_true', Bool.not_eq_false', decide_eq_true_eq, decide_eq_false_iff_not, Int.not_lt, Int.not_le] at h88
        refine w_seq (fun K90 hK89 => ?_)
        refine w_region ?_
        refine w_call want_none Try.call20 rfl rfl rfl rfl (c20 hs82) ?_
        rintro _ w92 ⟨rfl, hs93⟩
        refine w_pure want_none (y_assign (v := .bool _) rfl rfl) rfl ?_
        refine w_nil ?_
        refine q_then (hK89 _ _ ?_)
        refine w_ret ?_
        refine q_then_ret ?_
        refine q_ret (l := [.tmp 4]) (vs := [_]) rfl ⟨⟨rfl, show _ = (.bool _ : Value) from rfl⟩, trivial⟩ ?_
        exact ⟨rfl, (St.cast hZ hs93.drop.drop).tail.tail.tail.tail.tail⟩
       ·
        try simp only [Bool.not_eq_true', Bool.not_eq_false', decide_eq_true_eq, decide_eq_false_iff_not, Int.not_lt, Int.not_le] at h88
        refine w_skip ?_
        refine q_then (hK84 _ _ ?_)
        refine w_seq (fun K95 hK94 => ?_)
        have hbp : 0 < l.bunches.length := by omega
        have hzm := Int.emod_nonneg e2 (show (l.bunches.length : Int) ≠ 0 by omega)
        have hzl := Int.emod_lt_of_pos e2 (show 0 < (l.bunches.length : Int) by omega)
        obtain ⟨u, hu⟩ : ∃ u : Nat, e2 % (l.bunches.length : Int) = (u : Int) := ⟨(e2 % (l.bunches.length : Int)).toNat, by omega⟩
        have hu2 : u < l.bunches.length := by omega
        have hbu := hok.bunch _ (List.getElem_mem hu2)
        refine w_region ?_
        refine w_pure want_none (y_loadN (vs := [_, _, _]) Try.isAgg26 Try.sizeOf26 hs82.drop.drop rfl rfl hb2) rfl ?_
        refine w_alloc (cs := [_, _, _]) want_none Try.zeroValue26 rfl hs82 (fun b96 w97 hs98 => ?_)
        refine w_store (i := 0) (v := .agg #[.slice _ _ _, .slice _ _ _, .slice _ _ _]) (vs := [_, _, _]) want_none Try.sizeOf26 rfl rfl rfl rfl rfl (by simp [Value.oneCell']) hs98 rfl (Nat.le_of_ble_eq_true rfl) (fun w99 hs100 => ?_)
        refine w_nil ?_
        refine q_then (hK94 _ _ ?_)
        refine w_seq (fun K102 hK101 => ?_)
        refine w_region ?_
        refine w_bslice (ps := []) (pv := []) (cs := []) want_none rfl rfl (fun w => Try_Zg_fb8  w) hs100 (fun b103 w104 hs105 => ?_)
        refine w_pure want_none (y_fieldAddr (o := 1) (i := 1) Try.underlying26 rfl Try.sizeOf23 rfl rfl rfl) rfl ?_
        refine w_pure want_none (y_load1 Try.isAgg23 hs105.tail.tail.drop.drop rfl rfl (show Ats _ _ _ _ [_] from Ats.part hb2 1 1)) rfl ?_
        refine w_append (X := ([])) (B := [_]) (rows := (brows l.bunches)) (sz := 4) (bytes := 32) want_none Try.underlying23 Try_info81 rfl rfl rfl rfl rfl rfl rfl rfl rfl hs105 own_made hmZ.b.app.app.cons.cons (by simp [grows, brows]) hnB (brows_one _) (by simp only [maxLen]; omega) (by omega) (fun v106 w107 B108 ho109 hs110 => ?_)
        replace hs110 := (show St _ _ (B108 ++ (_ :: B2 ++ (B1 ++ (Z)))) from hs110)
        have hAB : Rt.Own v106 81 4 l.bunches.length (brows l.bunches).flatten B108 := by
          have h9 := ho109
          rw [Nat.zero_add, List.nil_append] at h9
          exact h9
        obtain ⟨bB, capB, csB, rfl, hBB, h1B, h2B, h3B, h4B⟩ := own_some hAB (by omega)
        subst hBB
        replace hs110 := (show St _ _ (_ :: _ :: B2 ++ (B1 ++ (Z))) from hs110)
        refine w_pure want_none (y_fieldAddr (o := 1) (i := 1) Try.underlying26 rfl Try.sizeOf23 rfl rfl rfl) rfl ?_
        refine w_store (i := 1) (v := .slice _ _ _) (vs := [_]) want_none Try.sizeOf23 rfl rfl rfl rfl rfl (by simp [Value.oneCell']) hs110 rfl (Nat.le_of_ble_eq_true rfl) (fun w111 hs112 => ?_)
        refine w_nil ?_
        refine q_then (hK101 _ _ ?_)
        refine w_seq (fun K114 hK113 => ?_)
        refine w_region ?_
        refine w_pure want_none (y_indexA Try.underlying77 Try.sizeOf5 rfl rfl rfl rfl (i := 2) rfl (by omega)) rfl ?_
        refine w_pure want_none (y_load1 Try.isAgg5 hs112.tail.tail.drop.drop rfl rfl (show Ats _ _ _ _ [_] from Ats.part hb3 2 1)) rfl ?_
        refine w_pure want_none (y_u8int (by rw [Try.underlying5]; rfl) Try.underlying3 rfl rfl (by omega) (by omega)) rfl ?_
        refine w_pure want_none (y_fieldAddr (o := 1) (i := 1) Try.underlying26 rfl Try.sizeOf23 rfl rfl rfl) rfl ?_
        refine w_pure want_none (y_load1 Try.isAgg23 hs112.tail.tail.drop.drop rfl rfl (show Ats _ _ _ _ [_] from Ats.part hb2 1 1)) rfl ?_
        refine w_pure want_none (y_lenS Try.underlying23 rfl rfl) rfl ?_
        refine w_pure want_none (y_rem rfl rfl rfl rfl (by omega) (by omega)) rfl ?_
        refine w_pure want_none (y_assign (v := .int _ _) rfl rfl) rfl ?_
        refine w_nil ?_
        refine q_then (hK113 _ _ ?_)
        refine w_seq (fun K116 hK115 => ?_)
        rw [hu]
        refine w_region ?_
        have hrB := row_of (row := Bunch.cells) (i := 0) hs112 rfl (fun _ => rfl) rfl h4B hu2
        refine w_pure want_none (y_fieldAddr (o := 1) (i := 1) Try.underlying26 rfl Try.sizeOf23 rfl rfl rfl) rfl ?_
        refine w_pure want_none (y_load1 Try.isAgg23 hs112 rfl rfl (ats_own (i := 1) (vs := [_]) rfl rfl)) rfl ?_
        refine w_pure want_none (y_move (v := .int _ _) rfl rfl) rfl ?_
        refine w_pure want_none (y_indexS Try.underlying23 Try.sizeOf81 rfl rfl rfl rfl (i := u) rfl hu2) rfl ?_
        refine w_pure want_none (y_loadN (vs := [_, _, _, _]) Try.isAgg81 Try.sizeOf81 hs112 rfl rfl hrB) rfl ?_
        refine w_alloc (cs := [_, _, _, _]) want_none Try.zeroValue81 rfl hs112 (fun b117 w118 hs119 => ?_)
        refine w_store (i := 0) (v := .agg #[.int _ _, .int _ _, .int _ _, .int _ _]) (vs := [_, _, _, _]) want_none Try.sizeOf81 rfl rfl rfl rfl rfl (by simp [Value.oneCell']) hs119 rfl (Nat.le_of_ble_eq_true rfl) (fun w120 hs121 => ?_)
        refine w_nil ?_
        refine q_then (hK115 _ _ ?_)
        refine w_seq (fun K123 hK122 => ?_)
        refine w_cut [118, 119, 120, 121, 122, 123, 124, 125, 126, 127, 128, 129, 130, 131, 132, 133, 134, 135] [] (fun vs w => vs = [] ∧ ∃ e : Bool, St w0 w ((b117, blk 81 (wideB e (l.bunches[u]'hu2)).cells) :: (bB, blk 81 csB) :: (b96, blk 26 [.slice p.ag l.grades.length p.cg, .slice (some ⟨bB, 0, none⟩) l.bunches.length capB, .slice p.ac l.counts.length p.cc]) :: (B2 ++ (B1 ++ Z)))) (fun K125 hC124 => ?_) ?_
        ·
         refine w_seq (fun K127 hK126 => ?_)
         refine w_region ?_
         refine w_pure want_none (y_indexA Try.underlying77 Try.sizeOf5 rfl rfl rfl rfl (i := 3) rfl (by omega)) rfl ?_
         refine w_pure want_none (y_load1 Try.isAgg5 hs121.tail.tail.tail.drop.drop rfl rfl (show Ats _ _ _ _ [_] from Ats.part hb3 3 1)) rfl ?_
         refine w_pure want_none (y_rem rfl rfl rfl rfl (by omega) (by omega)) rfl ?_
         refine w_pure want_none (y_eql rfl rfl rfl rfl) rfl ?_
         refine w_nil ?_
         refine q_then (hK126 _ _ ?_)
         refine w_cond rfl rfl (fun h128 => ?_) (fun h128 => ?_)
         ·
          try simp only [Bool.not_eq_true', Bool.not_eq_false', decide_eq_true_eq, decide_eq_false_iff_not, Int.not_lt, Int.not_le] at h128
          refine w_region ?_
          refine w_pure want_none (y_fieldAddr (o := 0) (i := 0) Try.underlying81 rfl Try.sizeOf34 rfl rfl rfl) rfl ?_
          refine w_pure want_none (y_fieldAddr (o := 0) (i := 0) Try.underlying34 rfl Try.sizeOf3 rfl rfl rfl) rfl ?_
          refine w_pure want_none (y_load1 Try.isAgg3 hs121 rfl rfl (ats_own (i := 0) (vs := [_]) rfl rfl)) rfl ?_
          refine w_pure want_none (y_sub rfl rfl rfl rfl (by omega) (by omega)) rfl ?_
          refine w_pure want_none (y_max2 rfl rfl rfl rfl) rfl ?_
          refine w_pure want_none (y_fieldAddr (o := 0) (i := 0) Try.underlying81 rfl Try.sizeOf34 rfl rfl rfl) rfl ?_
          refine w_pure want_none (y_fieldAddr (o := 0) (i := 0) Try.underlying34 rfl Try.sizeOf3 rfl rfl rfl) rfl ?_
          refine w_store (i := 0) (v := .int _ _) (vs := [_]) want_none Try.sizeOf3 rfl rfl rfl rfl rfl (by simp [Value.oneCell']) hs121 rfl (Nat.le_of_ble_eq_true rfl) (fun w129 hs130 => ?_)
          refine w_nil ?_
          refine q_then (hC124 _ _ (Md.intro (by repeat (first | exact agree_refl | exact agree_mix | refine agree_upd rfl ?_ | refine agree_updL rfl ?_ _ | refine agree_mixin rfl ?_)) ?_))
          first
            | exact ⟨rfl, true, hs130⟩
            | exact ⟨rfl, false, hs130⟩
         ·
          try simp only [Bool.not_eq_true', Bool.not_eq_false', decide_eq_true_eq, decide_eq_false_iff_not, Int.not_lt, Int.not_le] at h128
          refine w_region ?_
          refine w_pure want_none (y_fieldAddr (o := 0) (i := 0) Try.underlying81 rfl Try.sizeOf34 rfl rfl rfl) rfl ?_
          refine w_pure want_none (y_fieldAddr (o := 1) (i := 1) Try.underlying34 rfl Try.sizeOf3 rfl rfl rfl) rfl ?_
          refine w_pure want_none (y_load1 Try.isAgg3 hs121 rfl rfl (ats_own (i := 0) (vs := [_]) rfl rfl)) rfl ?_
          refine w_pure want_none (y_add rfl rfl rfl rfl (by omega) (by omega)) rfl ?_
          refine w_pure want_none (y_min2 rfl rfl rfl rfl) rfl ?_
          refine w_pure want_none (y_fieldAddr (o := 0) (i := 0) Try.underlying81 rfl Try.sizeOf34 rfl rfl rfl) rfl ?_
          refine w_pure want_none (y_fieldAddr (o := 1) (i := 1) Try.underlying34 rfl Try.sizeOf3 rfl rfl rfl) rfl ?_
          refine w_store (i := 0) (v := .int _ _) (vs := [_]) want_none Try.sizeOf3 rfl rfl rfl rfl rfl (by simp [Value.oneCell']) hs121 rfl (Nat.le_of_ble_eq_true rfl) (fun w131 hs132 => ?_)
          refine w_nil ?_
          refine q_then (hC124 _ _ (Md.intro (by repeat (first | exact agree_refl | exact agree_mix | refine agree_upd rfl ?_ | refine agree_updL rfl ?_ _ | refine agree_mixin rfl ?_)) ?_))
          first
            | exact ⟨rfl, true, hs132⟩
            | exact ⟨rfl, false, hs132⟩
        ·
         intro vs μ w133 hM
         obtain ⟨rfl, e, hs⟩ := hM
         refine q_then (hK122 _ _ ?_)
         refine w_seq (fun K135 hK134 => ?_)
         refine w_region ?_
         refine w_pure want_none (y_fieldAddr (o := 1) (i := 1) Try.underlying26 rfl Try.sizeOf23 rfl rfl rfl) rfl ?_
         refine w_pure want_none (y_load1 Try.isAgg23 hs rfl rfl (ats_own (i := 2) (vs := [_]) rfl rfl)) rfl ?_
         refine w_pure want_none (y_move (v := .int _ _) rfl rfl) rfl ?_
         refine w_pure want_none (y_loadN (vs := [_, _, _, _]) Try.isAgg81 Try.sizeOf81 hs rfl rfl (ats_own (i := 0) (vs := [_, _, _, _]) rfl rfl)) rfl ?_
         refine w_pure want_none (y_indexS Try.underlying23 Try.sizeOf81 rfl rfl rfl rfl (i := u) rfl hu2) rfl ?_
         refine w_store (i := 1) (v := .agg #[_, _, _, _]) (vs := [_, _, _, _]) want_none Try.sizeOf81 rfl rfl rfl rfl rfl (by simp [Value.oneCell']) hs rfl (show 0 + u * 4 + 4 ≤ csB.length by omega) (fun w136 hs137 => ?_)
         replace hs137 := (show St _ _ (_ :: (bB, blk 81 (setMany csB (u * 4) (wideB e (l.bunches[u]'hu2)).cells)) :: _ :: B2 ++ (B1 ++ (Z))) from (by have h6 := hs137; simp only [Nat.zero_add] at h6; exact h6))
         refine w_nil ?_
         refine q_then (hK134 _ _ ?_)
         refine w_seq (fun K139 hK138 => ?_)
         refine w_seq (fun K141 hK140 => ?_)
         have hcB : (wideL l e u hu2).cells (⟨p.ag, p.cg, some ⟨bB, 0, none⟩, capB, p.ac, p.cc⟩ : At3) = [.slice p.ag l.grades.length p.cg, .slice (some ⟨bB, 0, none⟩) l.bunches.length capB, .slice p.ac l.counts.length p.cc] := by simp [Lot.cells, wideL]
         have hoB := own_put (row := Bunch.cells) (t := 81) (b := bB) (y := wideB e (l.bunches[u]'hu2)) (fun _ => rfl) hu2 rfl h1B h2B h3B h4B
         have hlw : (wideL l e u hu2).bunches.length = l.bunches.length := List.length_set
         obtain ⟨Y, hY, hsY⟩ := gen_Z hs137
         have hb2Y : Ats w0 Y b3 0 (l.cells p) := by rw [hY]; exact hb2.app.app.cons.cons.cons
         have hb13 : Ats w0 Y b96 0 ((wideL l e u hu2).cells (⟨p.ag, p.cg, some ⟨bB, 0, none⟩, capB, p.ac, p.cc⟩ : At3)) := by rw [hY]; rw [hcB]; exact ats_of (i := 2) (vs := [.slice p.ag l.grades.length p.cg, .slice (some ⟨bB, 0, none⟩) l.bunches.length capB, .slice p.ac l.counts.length p.cc]) hs137 rfl rfl
         have hmY : LIn w0 Y l p := by rw [hY]; exact hmZ.app.app.cons.cons.cons
         have hsW : Sl w0 Y (some ⟨bB, 0, none⟩) 4 (brows (l.bunches.set u (wideB e (l.bunches[u]'hu2)))) := by rw [hY]; exact sl_own (i := 1) rfl (brows_row _) (by rw [show (brows (l.bunches.set u (wideB e (l.bunches[u]'hu2)))).length = l.bunches.length by simp [brows]]; exact own_cells hoB)
         have hmW : LIn w0 Y (wideL l e u hu2) (⟨p.ag, p.cg, some ⟨bB, 0, none⟩, capB, p.ac, p.cc⟩ : At3) := ⟨hmY.g, hsW, hmY.c, hm.lg, (by rw [hlw]; exact hm.lb), hm.lc, hm.cg, (by rw [hlw]; exact h1B), hm.cc, hm.ng⟩
         refine w_region ?_
         refine w_pure want_none (y_loadN (vs := [_, _, _]) Try.isAgg26 Try.sizeOf26 hsY rfl rfl hb13) rfl ?_
         refine w_call want_none Try.call38 rfl rfl rfl rfl (c38 (wideL l e u hu2) _ hmW hsY) ?_
         rintro _ w143 ⟨rfl, hs144⟩
         refine w_pure want_none (y_not rfl rfl) rfl ?_
         refine w_nil ?_
         refine q_then (hK140 _ _ ?_)
         refine w_cond rfl rfl (fun h145 => ?_) (fun h145 => ?_)
         ·
          try simp only [Bool.not_eq_true', Bool.not_eq_false', decide_eq_true_eq, decide_eq_false_iff_not, Int.not_lt, Int.not_le] at h145
          refine w_seq (fun K147 hK146 => ?_)
          refine w_region ?_
          refine w_call want_none Try.call20 rfl rfl rfl rfl (c20 hs144) ?_
          rintro _ w149 ⟨rfl, hs150⟩
          refine w_pure want_none (y_assign (v := .bool _) rfl rfl) rfl ?_
          refine w_nil ?_
          refine q_then (hK146 _ _ ?_)
          refine w_ret ?_
          refine q_then_ret ?_
          refine q_ret (l := [.tmp 4]) (vs := [_]) rfl ⟨⟨rfl, show _ = (.bool _ : Value) from rfl⟩, trivial⟩ ?_
          exact ⟨rfl, (St.cast hZ (St.cast hY hs150).tail.tail.tail.drop.drop).tail.tail.tail.tail.tail⟩
         ·
          try simp only [Bool.not_eq_true', Bool.not_eq_false', decide_eq_true_eq, decide_eq_false_iff_not, Int.not_lt, Int.not_le] at h145
          refine w_skip ?_
          refine q_then (hK138 _ _ ?_)
          refine w_seq (fun K152 hK151 => ?_)
          refine w_seq (fun K154 hK153 => ?_)
          have hcw : (check (wideL l e u hu2)).2.2 = 0 := by assumption
          refine w_region ?_
          refine w_pure want_none (y_assign (v := _) rfl rfl) rfl ?_
          refine w_nil ?_
          refine q_then (hK153 _ _ ?_)
          refine w_block ?_
          refine w_loop [4, 16, 17, 18, 19, 20, 145, 146, 147, 148, 149, 150, 151, 152, 153, 154, 155, 156, 157, 158, 159, 160, 161, 162, 163, 164, 165, 166, 167, 168, 169, 170, 171, 172, 173, 174, 175] [16] (fun kk vs w => ∃ (q : Nat), vs = [.int .i64 q] ∧ q ≤ l.bunches.length ∧ kk = l.bunches.length - q ∧ St w0 w Y) (l.bunches.length) ?_ ?_
          ·
           exact ⟨0, rfl, by omega, by omega, hs144⟩
          ·
           intro k vs μ w157 hI K156 hN155
           obtain ⟨q, rfl, hqa, rfl, hs⟩ := hI
           refine w_seq (fun K159 hK158 => ?_)
           refine w_seq (fun K161 hK160 => ?_)
           refine w_region ?_
           refine w_pure want_none (y_move (v := .int _ _) rfl rfl) rfl ?_
           refine w_pure want_none (y_fieldAddr (o := 1) (i := 1) Try.underlying26 rfl Try.sizeOf23 rfl rfl rfl) rfl ?_
           refine w_pure want_none (y_load1 Try.isAgg23 hs rfl rfl (show Ats _ _ _ _ [_] from Ats.part hb2Y 1 1)) rfl ?_
           refine w_pure want_none (y_lenS Try.underlying23 rfl rfl) rfl ?_
           refine w_pure want_none (y_lss rfl rfl rfl rfl) rfl ?_
           refine w_nil ?_
           refine q_then (hK160 _ _ ?_)
           refine w_cond rfl rfl (fun h162 => ?_) (fun h162 => ?_)
           ·
            try simp only [Bool.not_eq_true', Bool.not_eq_false', decide_eq_true_eq, decide_eq_false_iff_not, Int.not_lt, Int.not_le] at h162
            refine w_skip ?_
            refine q_then (hK158 _ _ ?_)
            refine w_seq (fun K164 hK163 => ?_)
            refine w_block ?_
            refine w_seq (fun K166 hK165 => ?_)
            have hq2 : q < l.bunches.length := by omega
            have hW := wide_law h1.1 h1.2 hu2 hcw hq2
            refine w_region ?_
            refine w_pure want_none (y_loadN (vs := [_, _, _]) Try.isAgg26 Try.sizeOf26 hs rfl rfl hb2Y) rfl ?_
            refine w_pure want_none (y_move (v := .int _ _) rfl rfl) rfl ?_
            refine w_call want_none Try.call21 rfl rfl rfl rfl (c21 l _ hmY (q : Int) hs) ?_
            rintro _ w168 ⟨rfl, hs169⟩
            refine w_pure want_none (y_move (v := .tuple _) rfl rfl) rfl ?_
            refine w_pure want_none (y_extract (v := .agg _) rfl rfl rfl) rfl ?_
            refine w_pure want_none (y_extract (v := .int _ _) rfl rfl rfl) rfl ?_
            refine w_alloc (cs := [_, _]) want_none Try.zeroValue34 rfl hs169 (fun b170 w171 hs172 => ?_)
            refine w_store (i := 0) (v := .agg #[.int _ _, .int _ _]) (vs := [_, _]) want_none Try.sizeOf34 rfl rfl rfl rfl rfl (by simp [Value.oneCell']) hs172 rfl (Nat.le_of_ble_eq_true rfl) (fun w173 hs174 => ?_)
            refine w_pure want_none (y_assign (v := .int _ _) rfl rfl) rfl ?_
            refine w_nil ?_
            refine q_then (hK165 _ _ ?_)
            refine w_seq (fun K176 hK175 => ?_)
            refine w_region ?_
            refine w_pure want_none (y_loadN (vs := [_, _, _]) Try.isAgg26 Try.sizeOf26 hs174.tail rfl rfl hb13) rfl ?_
            refine w_pure want_none (y_move (v := .int _ _) rfl rfl) rfl ?_
            refine w_call want_none Try.call21 rfl rfl rfl rfl (c21 (wideL l e u hu2) _ hmW.cons (q : Int) hs174) ?_
            rintro _ w178 ⟨rfl, hs179⟩
            refine w_pure want_none (y_move (v := .tuple _) rfl rfl) rfl ?_
            refine w_pure want_none (y_extract (v := .agg _) rfl rfl rfl) rfl ?_
            refine w_pure want_none (y_extract (v := .int _ _) rfl rfl rfl) rfl ?_
            refine w_alloc (cs := [_, _]) want_none Try.zeroValue34 rfl hs179 (fun b180 w181 hs182 => ?_)
            refine w_store (i := 0) (v := .agg #[.int _ _, .int _ _]) (vs := [_, _]) want_none Try.sizeOf34 rfl rfl rfl rfl rfl (by simp [Value.oneCell']) hs182 rfl (Nat.le_of_ble_eq_true rfl) (fun w183 hs184 => ?_)
            refine w_pure want_none (y_assign (v := .int _ _) rfl rfl) rfl ?_
            refine w_nil ?_
            refine q_then (hK175 _ _ ?_)
            refine w_seq (fun K186 hK185 => ?_)
            refine w_region ?_
            refine w_pure want_none (y_move (v := .int _ _) rfl rfl) rfl ?_
            refine w_pure want_none (y_neq rfl rfl rfl rfl) rfl ?_
            refine w_pure want_none (y_move (v := .bool _) rfl rfl) rfl ?_
            refine w_split (fun h187 => ?_) (fun h187 => ?_)
            ·
             exfalso
             try simp only [Bool.not_eq_true', Bool.not_eq_false', decide_eq_true_eq, decide_eq_false_iff_not, Int.not_lt, Int.not_le] at h187
             rw [hW.1] at h187; simp at h187
            ·
             try simp only [Bool.not_eq_true', Bool.not_eq_false', decide_eq_true_eq, decide_eq_false_iff_not, Int.not_lt, Int.not_le] at h187
             refine w_pure (want_yes rfl rfl rfl) (y_move (v := .int _ _) rfl rfl) rfl ?_
             refine w_pure (want_yes rfl rfl rfl) (y_neq rfl rfl rfl rfl) rfl ?_
             refine w_pure want_none (y_pickF (v := .bool _) rfl rfl rfl rfl) rfl ?_
             refine w_pure want_none (y_move (v := .bool _) rfl rfl) rfl ?_
             refine w_split (fun h188 => ?_) (fun h188 => ?_)
             ·
              exfalso
              try simp only [Bool.not_eq_true', Bool.not_eq_false', decide_eq_true_eq, decide_eq_false_iff_not, Int.not_lt, Int.not_le] at h188
              rw [hW.2.1] at h188; simp at h188
             ·
              try simp only [Bool.not_eq_true', Bool.not_eq_false', decide_eq_true_eq, decide_eq_false_iff_not, Int.not_lt, Int.not_le] at h188
              refine w_pure (want_yes rfl rfl rfl) (y_loadN (vs := [_, _]) Try.isAgg34 Try.sizeOf34 hs184 rfl rfl (ats_own (i := 1) (vs := [_, _]) rfl rfl)) rfl ?_
              refine w_pure (want_yes rfl rfl rfl) (y_loadN (vs := [_, _]) Try.isAgg34 Try.sizeOf34 hs184 rfl rfl (ats_own (i := 0) (vs := [_, _]) rfl rfl)) rfl ?_
              refine w_call (want_yes rfl rfl rfl) Try.call53 rfl rfl rfl rfl (c53 _ _ _ _ hs184) ?_
              rintro _ w190 ⟨rfl, hs191⟩
              refine w_pure (want_yes rfl rfl rfl) (y_not rfl rfl) rfl ?_
              refine w_pure want_none (y_pickF (v := .bool _) rfl rfl rfl rfl) rfl ?_
              refine w_nil ?_
              refine q_then (hK185 _ _ ?_)
              refine w_cond rfl rfl (fun h192 => ?_) (fun h192 => ?_)
              ·
               exfalso
               try simp only [Bool.not_eq_true', Bool.not_eq_false', decide_eq_true_eq, decide_eq_false_iff_not, Int.not_lt, Int.not_le] at h192
               have hh := hW.2.2
               omega
              ·
               try simp only [Bool.not_eq_true', Bool.not_eq_false', decide_eq_true_eq, decide_eq_false_iff_not, Int.not_lt, Int.not_le] at h192
               refine w_skip ?_
               refine q_blk_normal ?_
               refine q_then (hK163 _ _ ?_)
               refine w_region ?_
               refine w_pure want_none (y_move (v := .int _ _) rfl rfl) rfl ?_
               refine w_pure want_none (y_add rfl rfl rfl rfl (by omega) (by omega)) rfl ?_
               refine w_pure want_none (y_assign (v := .int _ _) rfl rfl) rfl ?_
               refine w_nil ?_
               refine q_then (hN155 _ _ (Nx.intro (l.bunches.length - (q + 1)) (by omega) (by repeat (first | exact agree_mix | refine agree_upd rfl ?_ | refine agree_updL rfl ?_ _ | refine agree_mixin rfl ?_)) ?_))
               exact ⟨q + 1, rfl, by omega, rfl, hs191.tail.tail⟩
           ·
            try simp only [Bool.not_eq_true', Bool.not_eq_false', decide_eq_true_eq, decide_eq_false_iff_not, Int.not_lt, Int.not_le] at h162
            refine w_exit ?_
            refine q_then_exit ?_
            refine q_then_exit ?_
            refine q_blk_this ?_
            refine q_then (hK151 _ _ ?_)
            refine w_seq (fun K194 hK193 => ?_)
            refine w_region ?_
            refine w_call want_none Try.call20 rfl rfl rfl rfl (c20 hs) ?_
            rintro _ w196 ⟨rfl, hs197⟩
            refine w_pure want_none (y_assign (v := .bool _) rfl rfl) rfl ?_
            refine w_nil ?_
            refine q_then (hK193 _ _ ?_)
            refine w_ret ?_
            refine q_ret (l := [.tmp 4]) (vs := [_]) rfl ⟨⟨rfl, show _ = (.bool _ : Value) from rfl⟩, trivial⟩ ?_
            exact ⟨rfl, (St.cast hZ (St.cast hY hs197).tail.tail.tail.drop.drop).tail.tail.tail.tail.tail⟩

end Go.Proofs
