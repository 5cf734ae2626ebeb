/- Walks of this seat, printed by gen.py over the engine: what each function returns, in whatever world. No conditions but those of each contract. -/
import Derived.Test.YtofoabifbkhkfaaZc
set_option linter.unusedVariables false
set_option linter.unusedSimpArgs false
set_option maxRecDepth 20000
namespace Go.Proofs
open Go.Rt
attribute [local irreducible] WL WC Con Yd At Ats Sl Agree DW
theorem Try_Zi_fb9  (w : World) : (Instr.buildSlice 24 0 [].toArray).run Try.prog w = .ok (.slice (some ⟨w.heap.size, 0, none⟩) 0 0) (w.alloc (Go.Rt.blk 60 [])) := by kernel_rfl
theorem c46b {w0 w : World} {F : List (Nat × Obj)} (p : Port) (a : Option Addr) (c : Nat) (ha : Sl w0 F a 6 (rows p.farms)) (h3 : p.farms.length ≤ 1000) (i : Nat) (hi : i < p.farms.length) (k : Int) (hs : St w0 w F) :
  Con Try.prog 46 [.agg (p.cells a c).toArray, .int .i64 (i : Int), .int .i64 k] w fun v w' => ∃ b cap cs, v = .agg #[.int .i64 p.hold, .int .i64 p.clo, .int .i64 p.chi, .slice (some ⟨b, 0, none⟩) p.farms.length cap] ∧ cs.length = cap * 6 ∧ p.farms.length ≤ cap ∧ cs.take (p.farms.length * 6) = (rows (setKeep p.farms i k)).flatten ∧ St w0 w' ((b, blk 60 cs) :: F) := by
  refine con_of_wc (n := 26) Try.func46 rfl rfl (Nat.le_of_ble_eq_true rfl) ?_
  obtain ⟨bx, ox, rfl, hx⟩ := sl_farm ha hi
  refine w_seq (fun K2 hK1 => ?_)
  refine w_region ?_
  refine w_box (v := .agg #[.int _ _, .int _ _, .int _ _, .slice _ _ _]) (cs := [_, _, _, _]) want_none rfl rfl rfl hs (fun b3 w4 hs5 => ?_)
  refine w_alloc (cs := [_, _, _, _]) want_none Try.zeroValue26 rfl hs5 (fun b6 w7 hs8 => ?_)
  refine w_nil ?_
  refine q_then (hK1 _ _ ?_)
  refine w_seq (fun K10 hK9 => ?_)
  refine w_region ?_
  refine w_bslice (ps := []) (pv := []) (cs := []) want_none rfl rfl (fun w => Try_Zi_fb9  w) hs8 (fun b11 w12 hs13 => ?_)
  refine w_pure want_none (y_fieldAddr (o := 3) (i := 2) Try.underlying26 rfl Try.sizeOf24 rfl rfl rfl) rfl ?_
  refine w_pure want_none (y_load1 Try.isAgg24 hs13 rfl rfl (ats_own (i := 2) (vs := [_]) rfl rfl)) rfl ?_
  refine w_append (X := ([])) (B := [_]) (rows := (rows p.farms)) (sz := 6) (bytes := 56) want_none Try.underlying24 Try_info60 rfl rfl rfl rfl rfl rfl rfl rfl rfl hs13 own_made ha.cons.cons.cons (by simp [rows]) (by simp) (rows_one p.farms) (by simp only [maxLen]; omega) (by omega) (fun v14 w15 B16 ho17 hs18 => ?_)
  replace hs18 := (show St _ _ (B16 ++ (_ :: _ :: F)) from hs18)
  rw [Nat.zero_add, List.nil_append] at ho17
  obtain ⟨bc, cap, cs0, rfl, rfl, hcap, hcl0, hcs0⟩ := own_some ho17 (by omega)
  replace hs18 := (show St _ _ (_ :: _ :: _ :: F) from hs18)
  refine w_pure want_none (y_fieldAddr (o := 3) (i := 2) Try.underlying26 rfl Try.sizeOf24 rfl rfl rfl) rfl ?_
  refine w_store (i := 2) (v := .slice _ _ _) (vs := [_]) want_none Try.sizeOf24 rfl rfl rfl rfl rfl (by simp [Value.oneCell']) hs18 rfl (Nat.le_of_ble_eq_true rfl) (fun w19 hs20 => ?_)
  refine w_nil ?_
  refine q_then (hK9 _ _ ?_)
  refine w_seq (fun K22 hK21 => ?_)
  refine w_region ?_
  refine w_pure want_none (y_fieldAddr (o := 3) (i := 2) Try.underlying26 rfl Try.sizeOf24 rfl rfl rfl) rfl ?_
  refine w_pure want_none (y_load1 Try.isAgg24 hs20 rfl rfl (ats_own (i := 2) (vs := [_]) rfl rfl)) rfl ?_
  refine w_pure want_none (y_move (v := .int _ _) rfl rfl) rfl ?_
  obtain ⟨bz, oz, hze, hz⟩ := sl_farm (sl_own_rows (w0 := w0) (L := (bc, blk 60 cs0) :: (b6, blk 26 [.int .i64 0, .int .i64 0, .int .i64 0, .slice none 0 0]) :: (b3, blk 26 (p.cells (some ⟨bc, 0, none⟩) cap)) :: F) (i := 0) rfl rfl hcs0) hi
  cases hze
  refine w_pure want_none (y_indexS Try.underlying24 Try.sizeOf60 rfl rfl rfl rfl (i := _) rfl (by omega)) rfl ?_
  refine w_pure want_none (y_loadN (vs := [_, _, _, _, _, _]) Try.isAgg60 Try.sizeOf60 hs20 rfl rfl hz) rfl ?_
  refine w_alloc (cs := [_, _, _, _, _, _]) want_none Try.zeroValue60 rfl hs20 (fun b23 w24 hs25 => ?_)
  refine w_store (i := 0) (v := .agg #[.string _, .int _ _, .int _ _, .int _ _, .int _ _, .int _ _]) (vs := [_, _, _, _, _, _]) want_none Try.sizeOf60 rfl rfl rfl rfl rfl (by simp [Value.oneCell']) hs25 rfl (Nat.le_of_ble_eq_true rfl) (fun w26 hs27 => ?_)
  refine w_nil ?_
  refine q_then (hK21 _ _ ?_)
  refine w_seq (fun K29 hK28 => ?_)
  refine w_region ?_
  refine w_pure want_none (y_move (v := .int _ _) rfl rfl) rfl ?_
  refine w_pure want_none (y_fieldAddr (o := 3) (i := 3) Try.underlying60 rfl Try.sizeOf3 rfl rfl rfl) rfl ?_
  refine w_store (i := 0) (v := .int _ _) (vs := [_]) want_none Try.sizeOf3 rfl rfl rfl rfl rfl (by simp [Value.oneCell']) hs27 rfl (Nat.le_of_ble_eq_true rfl) (fun w30 hs31 => ?_)
  refine w_nil ?_
  refine q_then (hK28 _ _ ?_)
  refine w_seq (fun K33 hK32 => ?_)
  refine w_region ?_
  refine w_pure want_none (y_fieldAddr (o := 3) (i := 2) Try.underlying26 rfl Try.sizeOf24 rfl rfl rfl) rfl ?_
  refine w_pure want_none (y_load1 Try.isAgg24 hs31 rfl rfl (ats_own (i := 3) (vs := [_]) rfl rfl)) rfl ?_
  refine w_pure want_none (y_move (v := .int _ _) rfl rfl) rfl ?_
  refine w_pure want_none (y_loadN (vs := [_, _, _, _, _, _]) Try.isAgg60 Try.sizeOf60 hs31 rfl rfl (ats_own (i := 0) (vs := [_, _, _, _, _, _]) rfl rfl)) rfl ?_
  refine w_pure want_none (y_indexS Try.underlying24 Try.sizeOf60 rfl rfl rfl rfl (i := _) rfl (by omega)) rfl ?_
  refine w_store (i := 1) (v := .agg #[_, _, _, _, _, _]) (vs := [.string p.farms[i].name, .int .i64 p.farms[i].way, .int .i64 p.farms[i].notice, .int .i64 k, .int .i64 p.farms[i].lo, .int .i64 p.farms[i].hi]) want_none Try.sizeOf60 rfl rfl rfl rfl rfl (by simp [Value.oneCell']) hs31 rfl (show 0 + i * 6 + 6 ≤ cs0.length by omega) (fun w34 hs35 => ?_)
  replace hs35 := (show St _ _ (_ :: (bc, blk 60 (setMany cs0 (i * 6) [.string p.farms[i].name, .int .i64 p.farms[i].way, .int .i64 p.farms[i].notice, .int .i64 k, .int .i64 p.farms[i].lo, .int .i64 p.farms[i].hi])) :: _ :: _ :: F) from (by have h6 := hs35; simp only [Nat.zero_add] at h6; exact h6))
  refine w_nil ?_
  refine q_then (hK32 _ _ ?_)
  refine w_seq (fun K37 hK36 => ?_)
  refine w_region ?_
  refine w_pure want_none (y_loadN (vs := [_, _, _, _]) Try.isAgg26 Try.sizeOf26 hs35 rfl rfl (ats_own (i := 3) (vs := [_, _, _, _]) rfl rfl)) rfl ?_
  refine w_store (i := 2) (v := .agg #[.int _ _, .int _ _, .int _ _, .slice _ _ _]) (vs := [_, _, _, _]) want_none Try.sizeOf26 rfl rfl rfl rfl rfl (by simp [Value.oneCell']) hs35 rfl (Nat.le_of_ble_eq_true rfl) (fun w38 hs39 => ?_)
  refine w_nil ?_
  refine q_then (hK36 _ _ ?_)
  refine w_ret ?_
  refine q_ret (l := [.cell 6 26]) (vs := [_]) rfl ⟨⟨rfl, _, rfl, run_loadVarN (vs := [_, _, _, _]) Try.isAgg26 Try.sizeOf26 hs39 (ats_own (i := 2) (vs := [_, _, _, _]) rfl rfl)⟩, trivial⟩ ?_
  exact ⟨bc, cap, _, rfl, (setMany_length _ _ _).trans hcl0, hcap, kept_cells k hi hcs0, keep_front (Y := [_, _]) hs39.tail⟩

theorem c46c {w0 w : World} {F : List (Nat × Obj)} (x y z : Int) (l : List Farm) (a : Option Addr) (c : Nat) (ha : Sl w0 F a 6 (rows l)) (h3 : l.length ≤ 1000) (i : Nat) (hi : i < l.length) (k : Int) (hs : St w0 w F) :
    Con Try.prog 46 [.agg #[.int .i64 x, .int .i64 y, .int .i64 z, .slice a l.length c], .int .i64 (i : Int), .int .i64 k] w fun v w' => ∃ b cap cs, v = .agg #[.int .i64 x, .int .i64 y, .int .i64 z, .slice (some ⟨b, 0, none⟩) l.length cap] ∧ cs.length = cap * 6 ∧ l.length ≤ cap ∧ cs.take (l.length * 6) = (rows (setKeep l i k)).flatten ∧ St w0 w' ((b, blk 60 cs) :: F) := c46b ⟨x, y, z, l⟩ a c ha h3 i hi k hs
theorem row_own {w0 w : World} {L : List (Nat × Obj)} {b n i j : Nat} {cs : List Value} {l : List Farm} (_hs : St w0 w L) (hi : L[i]? = some (b, blk 60 cs)) (hn : l.length = n) (h : cs.take (n * 6) = (rows l).flatten) (hj : j < l.length) : Ats w0 L b (0 + j * 6) l[j].cells := by
  obtain ⟨bz, oz, hze, hz⟩ := sl_farm (sl_own_rows (w0 := w0) hi hn h) hj
  cases hze
  exact hz
theorem ats_of {w0 w : World} {L : List (Nat × Obj)} {b i off : Nat} {t : TypeId} {cs vs : List Value} (_hs : St w0 w L) (hi : L[i]? = some (b, blk t cs)) (hv : (cs.drop off).take vs.length = vs) : Ats w0 L b off vs := ats_own hi hv
theorem easy_cells {cs : List Value} {l : List Farm} {i : Nat} {k : Int} (lo : Int) (hi : i < l.length) (h : cs.take (l.length * 6) = (rows (setKeep l i k)).flatten) : (setMany cs (i * 6) [.string l[i].name, .int .i64 l[i].way, .int .i64 l[i].notice, .int .i64 k, .int .i64 lo, .int .i64 l[i].hi]).take (l.length * 6) = (rows (easyL l i k lo)).flatten := by
  rw [setMany_take, h, easyL_at k lo hi]
  have e : (setKeep l i k).set i (easeF l[i] k lo) = l.set i (easeF l[i] k lo) := by rw [← keep_put k hi, List.set_set]
  rw [← e]
  exact rows_put (easeF l[i] k lo) _ _ (by rw [setKeep_len]; exact hi)
theorem easy_val (p : Port) (h x y : Int) (i : Nat) (k lo : Int) (a : Option Addr) (c : Nat) : Value.agg #[.int .i64 h, .int .i64 x, .int .i64 y, .slice a p.farms.length c] = .agg ((easyP p h x y i k lo).cells a c).toArray := by
  unfold Port.cells easyP; simp [easyL_len]
theorem easy_names {p : Port} (hn : ∀ f ∈ p.farms, f.name.size ≤ 9223372036854775807) (h x y : Int) (i : Nat) (k lo : Int) : ∀ f ∈ (easyP p h x y i k lo).farms, f.name.size ≤ 9223372036854775807 := by
  intro f hf
  have hm : f.name ∈ names (easyL p.farms i k lo) := List.mem_map.2 ⟨f, hf, rfl⟩
  rw [easyL_names] at hm
  obtain ⟨g, hg, e⟩ := List.mem_map.1 hm
  rw [← e]; exact hn g hg
theorem c26e {w0 w : World} {F : List (Nat × Obj)} (p : Port) (h x y : Int) (i : Nat) (k lo : Int) (a : Option Addr) (c : Nat) (hl3 : p.farms.length ≤ 9223372036854775807) (hc : p.farms.length ≤ c) (ha : Sl w0 F a 6 (rows (easyL p.farms i k lo))) (hnm : ∀ f ∈ p.farms, f.name.size ≤ 9223372036854775807) (hs : St w0 w F) :
    Con Try.prog 26 [.agg #[.int .i64 h, .int .i64 x, .int .i64 y, .slice a p.farms.length c]] w fun v w' => ∃ B aq cq, v = .tuple #[.slice aq (planL (easyP p h x y i k lo)).length cq, .int .i64 (planV (easyP p h x y i k lo)), .int .i64 (planE (easyP p h x y i k lo))] ∧ Sl w0 (B ++ F) aq 1 ((planL (easyP p h x y i k lo)).map fun x => [Value.int .i64 x]) ∧ St w0 w' (B ++ F) := by
  rw [easy_val p h x y i k lo]
  exact c26 (easyP p h x y i k lo) a c (by show (easyL _ _ _ _).length ≤ _; rw [easyL_len]; exact hl3) (by show (easyL _ _ _ _).length ≤ _; rw [easyL_len]; exact hc) ha (easy_names hnm _ _ _ _ _ _) hs
theorem c13 {w0 w : World} {F : List (Nat × Obj)} (p : Port) (a : Option Addr) (c : Nat) (hl3 : p.farms.length ≤ 9223372036854775807) (hc : p.farms.length ≤ c) (ha : Sl w0 F a 6 (rows p.farms)) (hnm : ∀ f ∈ p.farms, f.name.size ≤ 9223372036854775807) (x0 x1 x2 x3 x4 x5 : Int) (hx0 : 0 ≤ x0 ∧ x0 ≤ 255) (hx1 : 0 ≤ x1 ∧ x1 ≤ 255) (hx2 : 0 ≤ x2 ∧ x2 ≤ 255) (hx3 : 0 ≤ x3 ∧ x3 ≤ 255) (hx4 : 0 ≤ x4 ∧ x4 ≤ 255) (hx5 : 0 ≤ x5 ∧ x5 ≤ 255) (ay : Option Addr) (cy : Nat) (y : List Int) (hyl : y.length ≤ 9223372036854775807) (hys : Sl w0 F ay 1 (y.map fun n => [Value.int .u8 n])) (hyr : ∀ z ∈ y, 0 ≤ z ∧ z ≤ 255) (hs : St w0 w F) :
  Con Try.prog 13 [.agg (p.cells a c).toArray, .agg #[.int .u8 x0, .int .u8 x1, .int .u8 x2, .int .u8 x3, .int .u8 x4, .int .u8 x5], .slice ay y.length cy] w fun v w' => v = .bool true ∧ St w0 w' F := by
  refine con_of_wc (n := 180) Try.func13 rfl rfl (Nat.le_of_ble_eq_true rfl) ?_
  refine w_seq (fun K2 hK1 => ?_)
  refine w_region ?_
  refine w_box (v := .agg #[.int _ _, .int _ _, .int _ _, .slice _ _ _]) (cs := [_, _, _, _]) want_none rfl rfl rfl hs (fun b3 w4 hs5 => ?_)
  refine w_box (v := .agg #[.int _ _, .int _ _, .int _ _, .int _ _, .int _ _, .int _ _]) (cs := [_, _, _, _, _, _]) want_none rfl rfl rfl hs5 (fun b6 w7 hs8 => ?_)
  refine w_pure want_none (y_assign (v := _) rfl rfl) rfl ?_
  refine w_nil ?_
  refine q_then (hK1 _ _ ?_)
  refine w_seq (fun K10 hK9 => ?_)
  refine w_seq (fun K12 hK11 => ?_)
  have hbx3 : Ats w0 ((b3, blk 26 (p.cells a c)) :: F) b3 0 (p.cells a c) := ats_own (i := 0) (vs := (p.cells a c)) rfl rfl
  have hbx4 : Ats w0 ((b6, blk 68 [.int .u8 x0, .int .u8 x1, .int .u8 x2, .int .u8 x3, .int .u8 x4, .int .u8 x5]) :: (b3, blk 26 (p.cells a c)) :: F) b6 0 [.int .u8 x0, .int .u8 x1, .int .u8 x2, .int .u8 x3, .int .u8 x4, .int .u8 x5] := ats_own (i := 0) (vs := [.int .u8 x0, .int .u8 x1, .int .u8 x2, .int .u8 x3, .int .u8 x4, .int .u8 x5]) rfl rfl
  refine w_region ?_
  refine w_pure want_none (y_loadN (vs := [_, _, _, _]) Try.isAgg26 Try.sizeOf26 hs8.tail rfl rfl hbx3) rfl ?_
  refine w_call want_none Try.call37 rfl rfl rfl rfl (c37 p _ _ (by omega) (by omega) ha.cons.cons hnm hs8) ?_
  rintro _ w14 ⟨rfl, hs15⟩
  refine w_pure want_none (y_not rfl rfl) rfl ?_
  refine w_nil ?_
  refine q_then (hK11 _ _ ?_)
  refine w_cond rfl rfl (fun h16 => ?_) (fun h16 => ?_)
  ·
    try simp only [Bool.not_eq_true', Bool.not_eq_false', decide_eq_true_eq, decide_eq_false_iff_not, Int.not_lt, Int.not_le] at h16
    refine w_seq (fun K18 hK17 => ?_)
    refine w_region ?_
    refine w_call want_none Try.call23 rfl rfl rfl rfl (c23 hs15) ?_
    rintro _ w20 ⟨rfl, hs21⟩
    refine w_pure want_none (y_assign (v := .bool _) rfl rfl) rfl ?_
    refine w_nil ?_
    refine q_then (hK17 _ _ ?_)
    refine w_ret ?_
    refine q_then_ret ?_
    refine q_ret (l := [.tmp 6]) (vs := [_]) rfl ⟨⟨rfl, show _ = (.bool _ : Value) from rfl⟩, trivial⟩ ?_
    exact ⟨rfl, hs21.tail.tail⟩
  ·
    try simp only [Bool.not_eq_true', Bool.not_eq_false', decide_eq_true_eq, decide_eq_false_iff_not, Int.not_lt, Int.not_le] at h16
    refine w_skip ?_
    refine q_then (hK9 _ _ ?_)
    refine w_seq (fun K23 hK22 => ?_)
    have hck : (check p).2.2 = 0 := by assumption
    have hok := check_ok hck
    have hlen3 := hok.len
    have hcome := hok.come
    have hho := hok.hold
    have hpe := plan_e09 hck
    refine w_region ?_
    refine w_pure want_none (y_loadN (vs := [_, _, _, _]) Try.isAgg26 Try.sizeOf26 hs15.tail rfl rfl hbx3) rfl ?_
    refine w_alloc (cs := [_, _, _, _]) want_none Try.zeroValue26 rfl hs15 (fun b24 w25 hs26 => ?_)
    refine w_store (i := 0) (v := .agg #[.int _ _, .int _ _, .int _ _, .slice _ _ _]) (vs := [_, _, _, _]) want_none Try.sizeOf26 rfl rfl rfl rfl rfl (by simp [Value.oneCell']) hs26 rfl (Nat.le_of_ble_eq_true rfl) (fun w27 hs28 => ?_)
    refine w_nil ?_
    refine q_then (hK22 _ _ ?_)
    refine w_seq (fun K30 hK29 => ?_)
    have hq1 := Int.emod_nonneg x0 (show p.chi - p.clo + 1 ≠ 0 by omega)
    have hq2 := Int.emod_lt_of_pos x0 (show 0 < p.chi - p.clo + 1 by omega)
    refine w_draw [18] [(0, 0), (1, 0), (2, 1), (3, 0), (4, 1), (5, 0), (6, 0), (7, 0), (8, 1), (9, 0), (10, 0), (11, 1), (12, 0), (13, 0), (14, 0), (15, 0), (16, 0), (17, 0), (18, 3)] Try_mo (by kernel_rfl) hs28 (fun w31 hs32 => ?_)
    refine d_any rfl want_none rfl (fun _ => (y_fieldAddr (o := 1) (i := 1) Try.underlying26 rfl Try.sizeOf23 rfl rfl rfl)) ?_
    refine d_any rfl want_none rfl (fun _ => (y_fieldAddr (o := 0) (i := 0) Try.underlying23 rfl Try.sizeOf3 rfl rfl rfl)) ?_
    refine d_take rfl want_none rfl hs32 (fun _ hq => (y_load1 Try.isAgg3 hq.tail.tail rfl rfl (show Ats _ _ _ _ [_] from Ats.part hbx3 1 1))) ?_
    refine d_any rfl want_none rfl (fun _ => (y_fieldAddr (o := 0) (i := 0) Try.underlying68 rfl Try.sizeOf5 rfl rfl rfl)) ?_
    refine d_take rfl want_none rfl hs32 (fun _ hq => (y_load1 Try.isAgg5 hq.tail rfl rfl (show Ats _ _ _ _ [_] from Ats.part hbx4 0 1))) ?_
    refine d_any rfl want_none rfl (fun _ => (y_u8int (by rw [Try.underlying5]; rfl) Try.underlying3 rfl rfl (by omega) (by omega))) ?_
    refine d_any rfl want_none rfl (fun _ => (y_fieldAddr (o := 1) (i := 1) Try.underlying26 rfl Try.sizeOf23 rfl rfl rfl)) ?_
    refine d_any rfl want_none rfl (fun _ => (y_fieldAddr (o := 1) (i := 1) Try.underlying23 rfl Try.sizeOf3 rfl rfl rfl)) ?_
    refine d_take rfl want_none rfl hs32 (fun _ hq => (y_load1 Try.isAgg3 hq.tail.tail rfl rfl (show Ats _ _ _ _ [_] from Ats.part hbx3 2 1))) ?_
    refine d_any rfl want_none rfl (fun _ => (y_fieldAddr (o := 1) (i := 1) Try.underlying26 rfl Try.sizeOf23 rfl rfl rfl)) ?_
    refine d_any rfl want_none rfl (fun _ => (y_fieldAddr (o := 0) (i := 0) Try.underlying23 rfl Try.sizeOf3 rfl rfl rfl)) ?_
    refine d_take rfl want_none rfl hs32 (fun _ hq => (y_load1 Try.isAgg3 hq.tail.tail rfl rfl (show Ats _ _ _ _ [_] from Ats.part hbx3 1 1))) ?_
    refine d_any rfl want_none rfl (fun _ => (y_sub rfl rfl rfl rfl (by omega) (by omega))) ?_
    refine d_any rfl want_none rfl (fun _ => (y_add rfl rfl rfl rfl (by omega) (by omega))) ?_
    refine d_any rfl want_none rfl (fun _ => (y_rem rfl rfl rfl rfl (by omega) (by omega))) ?_
    refine d_any rfl want_none rfl (fun _ => (y_add rfl rfl rfl rfl (by omega) (by omega))) ?_
    refine d_any rfl want_none rfl (fun _ => (y_fieldAddr (o := 1) (i := 1) Try.underlying26 rfl Try.sizeOf23 rfl rfl rfl)) ?_
    refine d_any rfl want_none rfl (fun _ => (y_fieldAddr (o := 0) (i := 0) Try.underlying23 rfl Try.sizeOf3 rfl rfl rfl)) ?_
    refine d_late rfl ?_
    refine w_store (i := 0) (v := .int _ _) (vs := [_]) want_none Try.sizeOf3 rfl rfl rfl rfl rfl (by simp [Value.oneCell']) hs32 rfl (Nat.le_of_ble_eq_true rfl) (fun w33 hs34 => ?_)
    refine w_nil ?_
    refine qn ?_
    refine d_nil ?_
    refine q_then (hK29 _ _ ?_)
    refine w_seq (fun K36 hK35 => ?_)
    have hA1 : p.clo ≤ p.clo + x0 % (p.chi - p.clo + 1) ∧ p.clo + x0 % (p.chi - p.clo + 1) ≤ p.chi := by omega
    generalize p.clo + x0 % (p.chi - p.clo + 1) = A at hA1 hs34 ⊢
    have hq3 := Int.emod_nonneg x1 (show p.chi - A + 1 ≠ 0 by omega)
    have hq4 := Int.emod_lt_of_pos x1 (show 0 < p.chi - A + 1 by omega)
    refine w_draw [18] [(0, 0), (1, 0), (2, 1), (3, 0), (4, 1), (5, 0), (6, 0), (7, 0), (8, 1), (9, 0), (10, 0), (11, 1), (12, 0), (13, 0), (14, 0), (15, 0), (16, 0), (17, 0), (18, 3)] Try_mo (by kernel_rfl) hs34 (fun w37 hs38 => ?_)
    refine d_any rfl want_none rfl (fun _ => (y_fieldAddr (o := 1) (i := 1) Try.underlying26 rfl Try.sizeOf23 rfl rfl rfl)) ?_
    refine d_any rfl want_none rfl (fun _ => (y_fieldAddr (o := 0) (i := 0) Try.underlying23 rfl Try.sizeOf3 rfl rfl rfl)) ?_
    refine d_take rfl want_none rfl hs38 (fun _ hq => (y_load1 Try.isAgg3 hq rfl rfl (ats_own (i := 0) (vs := [_]) rfl rfl))) ?_
    refine d_any rfl want_none rfl (fun _ => (y_fieldAddr (o := 1) (i := 1) Try.underlying68 rfl Try.sizeOf5 rfl rfl rfl)) ?_
    refine d_take rfl want_none rfl hs38 (fun _ hq => (y_load1 Try.isAgg5 hq.tail rfl rfl (show Ats _ _ _ _ [_] from Ats.part hbx4 1 1))) ?_
    refine d_any rfl want_none rfl (fun _ => (y_u8int (by rw [Try.underlying5]; rfl) Try.underlying3 rfl rfl (by omega) (by omega))) ?_
    refine d_any rfl want_none rfl (fun _ => (y_fieldAddr (o := 1) (i := 1) Try.underlying26 rfl Try.sizeOf23 rfl rfl rfl)) ?_
    refine d_any rfl want_none rfl (fun _ => (y_fieldAddr (o := 1) (i := 1) Try.underlying23 rfl Try.sizeOf3 rfl rfl rfl)) ?_
    refine d_take rfl want_none rfl hs38 (fun _ hq => (y_load1 Try.isAgg3 hq.tail.tail rfl rfl (show Ats _ _ _ _ [_] from Ats.part hbx3 2 1))) ?_
    refine d_any rfl want_none rfl (fun _ => (y_fieldAddr (o := 1) (i := 1) Try.underlying26 rfl Try.sizeOf23 rfl rfl rfl)) ?_
    refine d_any rfl want_none rfl (fun _ => (y_fieldAddr (o := 0) (i := 0) Try.underlying23 rfl Try.sizeOf3 rfl rfl rfl)) ?_
    refine d_take rfl want_none rfl hs38 (fun _ hq => (y_load1 Try.isAgg3 hq rfl rfl (ats_own (i := 0) (vs := [_]) rfl rfl))) ?_
    refine d_any rfl want_none rfl (fun _ => (y_sub rfl rfl rfl rfl (by omega) (by omega))) ?_
    refine d_any rfl want_none rfl (fun _ => (y_add rfl rfl rfl rfl (by omega) (by omega))) ?_
    refine d_any rfl want_none rfl (fun _ => (y_rem rfl rfl rfl rfl (by omega) (by omega))) ?_
    refine d_any rfl want_none rfl (fun _ => (y_add rfl rfl rfl rfl (by omega) (by omega))) ?_
    refine d_any rfl want_none rfl (fun _ => (y_fieldAddr (o := 1) (i := 1) Try.underlying26 rfl Try.sizeOf23 rfl rfl rfl)) ?_
    refine d_any rfl want_none rfl (fun _ => (y_fieldAddr (o := 1) (i := 1) Try.underlying23 rfl Try.sizeOf3 rfl rfl rfl)) ?_
    refine d_late rfl ?_
    refine w_store (i := 0) (v := .int _ _) (vs := [_]) want_none Try.sizeOf3 rfl rfl rfl rfl rfl (by simp [Value.oneCell']) hs38 rfl (Nat.le_of_ble_eq_true rfl) (fun w39 hs40 => ?_)
    refine w_nil ?_
    refine qn ?_
    refine d_nil ?_
    refine q_then (hK35 _ _ ?_)
    refine w_seq (fun K42 hK41 => ?_)
    have hB1 : A ≤ A + x1 % (p.chi - A + 1) ∧ A + x1 % (p.chi - A + 1) ≤ p.chi := by omega
    generalize A + x1 % (p.chi - A + 1) = Bq at hB1 hs40 ⊢
    have hq5 : 0 ≤ x2 % 20 ∧ x2 % 20 < 20 := by omega
    refine w_region ?_
    refine w_pure want_none (y_loadN (vs := [_, _, _, _]) Try.isAgg26 Try.sizeOf26 hs40 rfl rfl (ats_own (i := 0) (vs := [_, _, _, _]) rfl rfl)) rfl ?_
    refine w_alloc (cs := [_, _, _, _]) want_none Try.zeroValue26 rfl hs40 (fun b43 w44 hs45 => ?_)
    refine w_store (i := 0) (v := .agg #[.int _ _, .int _ _, .int _ _, .slice _ _ _]) (vs := [_, _, _, _]) want_none Try.sizeOf26 rfl rfl rfl rfl rfl (by simp [Value.oneCell']) hs45 rfl (Nat.le_of_ble_eq_true rfl) (fun w46 hs47 => ?_)
    refine w_nil ?_
    refine q_then (hK41 _ _ ?_)
    refine w_seq (fun K49 hK48 => ?_)
    refine w_region ?_
    refine w_pure want_none (y_fieldAddr (o := 0) (i := 0) Try.underlying26 rfl Try.sizeOf3 rfl rfl rfl) rfl ?_
    refine w_pure want_none (y_load1 Try.isAgg3 hs47.tail.tail.tail rfl rfl (show Ats _ _ _ _ [_] from Ats.part hbx3 0 1)) rfl ?_
    refine w_pure want_none (y_fieldAddr (o := 2) (i := 2) Try.underlying68 rfl Try.sizeOf5 rfl rfl rfl) rfl ?_
    refine w_pure want_none (y_load1 Try.isAgg5 hs47.tail.tail rfl rfl (show Ats _ _ _ _ [_] from Ats.part hbx4 2 1)) rfl ?_
    refine w_pure want_none (y_u8int (by rw [Try.underlying5]; rfl) Try.underlying3 rfl rfl (by omega) (by omega)) rfl ?_
    refine w_pure want_none (y_rem rfl rfl rfl rfl (by omega) (by omega)) rfl ?_
    refine w_pure want_none (y_sub rfl rfl rfl rfl (by omega) (by omega)) rfl ?_
    refine w_pure want_none (y_max2 rfl rfl rfl rfl) rfl ?_
    refine w_pure want_none (y_fieldAddr (o := 0) (i := 0) Try.underlying26 rfl Try.sizeOf3 rfl rfl rfl) rfl ?_
    refine w_store (i := 0) (v := .int _ _) (vs := [_]) want_none Try.sizeOf3 rfl rfl rfl rfl rfl (by simp [Value.oneCell']) hs47 rfl (Nat.le_of_ble_eq_true rfl) (fun w50 hs51 => ?_)
    refine w_nil ?_
    refine q_then (hK48 _ _ ?_)
    refine w_seq (fun K53 hK52 => ?_)
    refine w_seq (fun K55 hK54 => ?_)
    have hH1 : 1 ≤ max 1 (p.hold - x2 % 20) ∧ max 1 (p.hold - x2 % 20) ≤ p.hold := by omega
    generalize max 1 (p.hold - x2 % 20) = Hh at hH1 hs51 ⊢
    refine w_region ?_
    refine w_pure want_none (y_fieldAddr (o := 3) (i := 2) Try.underlying26 rfl Try.sizeOf24 rfl rfl rfl) rfl ?_
    refine w_pure want_none (y_load1 Try.isAgg24 hs51.tail.tail.tail rfl rfl (show Ats _ _ _ _ [_] from Ats.part hbx3 3 1)) rfl ?_
    refine w_pure want_none (y_lenS Try.underlying24 rfl rfl) rfl ?_
    refine w_pure want_none (y_gtr rfl rfl rfl rfl) rfl ?_
    refine w_nil ?_
    refine q_then (hK54 _ _ ?_)
    refine w_cond rfl rfl (fun h56 => ?_) (fun h56 => ?_)
    ·
      try simp only [Bool.not_eq_true', Bool.not_eq_false', decide_eq_true_eq, decide_eq_false_iff_not, Int.not_lt, Int.not_le] at h56
      refine w_seq (fun K58 hK57 => ?_)
      refine w_region ?_
      refine w_pure want_none (y_fieldAddr (o := 5) (i := 5) Try.underlying68 rfl Try.sizeOf5 rfl rfl rfl) rfl ?_
      refine w_pure want_none (y_load1 Try.isAgg5 hs51.tail.tail rfl rfl (show Ats _ _ _ _ [_] from Ats.part hbx4 5 1)) rfl ?_
      refine w_pure want_none (y_u8int (by rw [Try.underlying5]; rfl) Try.underlying3 rfl rfl (by omega) (by omega)) rfl ?_
      refine w_pure want_none (y_fieldAddr (o := 3) (i := 2) Try.underlying26 rfl Try.sizeOf24 rfl rfl rfl) rfl ?_
      refine w_pure want_none (y_load1 Try.isAgg24 hs51.tail.tail.tail rfl rfl (show Ats _ _ _ _ [_] from Ats.part hbx3 3 1)) rfl ?_
      refine w_pure want_none (y_lenS Try.underlying24 rfl rfl) rfl ?_
      refine w_pure want_none (y_rem rfl rfl rfl rfl (by omega) (by omega)) rfl ?_
      refine w_pure want_none (y_assign (v := .int _ _) rfl rfl) rfl ?_
      refine w_nil ?_
      refine q_then (hK57 _ _ ?_)
      refine w_seq (fun K60 hK59 => ?_)
      have he1 := Int.emod_nonneg x5 (show (p.farms.length : Int) ≠ 0 by omega)
      have he2 := Int.emod_lt_of_pos x5 (show (0:Int) < p.farms.length by omega)
      generalize x5 % (p.farms.length : Int) = z0 at he1 he2 ⊢
      obtain ⟨i, rfl⟩ : ∃ i : Nat, z0 = i := ⟨z0.toNat, by omega⟩
      have hi : i < p.farms.length := by omega
      have hfo := hok.farm _ (List.getElem_mem hi)
      unfold Farm.Ok at hfo
      have h3 : 0 ≤ x3 % 3 ∧ x3 % 3 < 3 := by omega
      have h4 : 0 ≤ x4 % 10 ∧ x4 % 10 < 10 := by omega
      obtain ⟨bx, ox, rfl, hx⟩ := sl_farm ha hi
      refine w_draw [15] [(0, 1), (1, 0), (2, 0), (3, 1), (4, 0), (5, 0), (6, 0), (7, 1), (8, 0), (9, 1), (10, 0), (11, 0), (12, 0), (13, 0), (14, 2), (15, 3)] Try_mo (by kernel_rfl) hs51 (fun w61 hs62 => ?_)
      refine d_take rfl want_none rfl hs62 (fun _ hq => (y_loadN (vs := [_, _, _, _]) Try.isAgg26 Try.sizeOf26 hq rfl rfl (ats_own (i := 0) (vs := [_, _, _, _]) rfl rfl))) ?_
      refine d_any rfl want_none rfl (fun _ => (y_move (v := .int _ _) rfl rfl)) ?_
      refine d_any rfl want_none rfl (fun _ => (y_fieldAddr (o := 3) (i := 2) Try.underlying26 rfl Try.sizeOf24 rfl rfl rfl)) ?_
      refine d_take rfl want_none rfl hs62 (fun _ hq => (y_load1 Try.isAgg24 hq.tail.tail.tail rfl rfl (show Ats _ _ _ _ [_] from Ats.part hbx3 3 1))) ?_
      refine d_any rfl want_none rfl (fun _ => (y_move (v := .int _ _) rfl rfl)) ?_
      refine d_any rfl want_none rfl (fun _ => (y_indexS Try.underlying24 Try.sizeOf60 rfl rfl rfl rfl (i := _) rfl (by omega))) ?_
      refine d_any rfl want_none rfl (fun _ => (y_fieldAddr (o := 3) (i := 3) Try.underlying60 rfl Try.sizeOf3 rfl rfl rfl)) ?_
      refine d_take rfl want_none rfl hs62 (fun _ hq => (y_load1 Try.isAgg3 hq.tail.tail.tail.tail rfl rfl (show Ats _ _ _ _ [_] from Ats.part hx 3 1))) ?_
      refine d_any rfl want_none rfl (fun _ => (y_fieldAddr (o := 3) (i := 3) Try.underlying68 rfl Try.sizeOf5 rfl rfl rfl)) ?_
      refine d_take rfl want_none rfl hs62 (fun _ hq => (y_load1 Try.isAgg5 hq.tail.tail rfl rfl (show Ats _ _ _ _ [_] from Ats.part hbx4 3 1))) ?_
      refine d_any rfl want_none rfl (fun _ => (y_u8int (by rw [Try.underlying5]; rfl) Try.underlying3 rfl rfl (by omega) (by omega))) ?_
      refine d_any rfl want_none rfl (fun _ => (y_rem rfl rfl rfl rfl (by omega) (by omega))) ?_
      refine d_any rfl want_none rfl (fun _ => (y_add rfl rfl rfl rfl (by omega) (by omega))) ?_
      refine d_any rfl want_none rfl (fun _ => (y_min2 rfl rfl rfl rfl)) ?_
      refine d_eff rfl ?_
      refine w_call want_none Try.call46 rfl rfl rfl rfl (c46c _ _ _ p.farms _ _ ha.cons.cons.cons.cons (by omega) i hi _ hs62) ?_
      rintro _ w64 ⟨bk, cap, cs, rfl, hcl, hcap, hcs, hs65⟩
      refine w_nil ?_
      refine qn ⟨hs65.tail, ?_⟩
      refine d_late rfl ?_
      refine w_store (i := 1) (v := .agg #[.int _ _, .int _ _, .int _ _, .slice _ _ _]) (vs := [_, _, _, _]) want_none Try.sizeOf26 rfl rfl rfl rfl rfl (by simp [Value.oneCell']) hs65 rfl (Nat.le_of_ble_eq_true rfl) (fun w66 hs67 => ?_)
      refine w_nil ?_
      refine qn ?_
      refine d_nil ?_
      refine q_then (hK59 _ _ ?_)
      refine w_seq (fun K69 hK68 => ?_)
      have hz := row_own (i := 0) (j := i) hs67 rfl (setKeep_len _ _ _) hcs (by rw [setKeep_len]; exact hi)
      rw [setKeep_cells _ hi] at hz
      refine w_region ?_
      refine w_pure want_none (y_fieldAddr (o := 3) (i := 2) Try.underlying26 rfl Try.sizeOf24 rfl rfl rfl) rfl ?_
      refine w_pure want_none (y_load1 Try.isAgg24 hs67 rfl rfl (ats_own (i := 1) (vs := [_]) rfl rfl)) rfl ?_
      refine w_pure want_none (y_move (v := .int _ _) rfl rfl) rfl ?_
      refine w_pure want_none (y_indexS Try.underlying24 Try.sizeOf60 rfl rfl rfl rfl (i := _) rfl (by omega)) rfl ?_
      refine w_pure want_none (y_loadN (vs := [_, _, _, _, _, _]) Try.isAgg60 Try.sizeOf60 hs67 rfl rfl hz) rfl ?_
      refine w_alloc (cs := [_, _, _, _, _, _]) want_none Try.zeroValue60 rfl hs67 (fun b70 w71 hs72 => ?_)
      refine w_store (i := 0) (v := .agg #[.string _, .int _ _, .int _ _, .int _ _, .int _ _, .int _ _]) (vs := [_, _, _, _, _, _]) want_none Try.sizeOf60 rfl rfl rfl rfl rfl (by simp [Value.oneCell']) hs72 rfl (Nat.le_of_ble_eq_true rfl) (fun w73 hs74 => ?_)
      refine w_nil ?_
      refine q_then (hK68 _ _ ?_)
      refine w_seq (fun K76 hK75 => ?_)
      refine w_region ?_
      refine w_pure want_none (y_fieldAddr (o := 4) (i := 4) Try.underlying60 rfl Try.sizeOf23 rfl rfl rfl) rfl ?_
      refine w_pure want_none (y_fieldAddr (o := 1) (i := 1) Try.underlying23 rfl Try.sizeOf3 rfl rfl rfl) rfl ?_
      refine w_pure want_none (y_load1 Try.isAgg3 hs74 rfl rfl (ats_own (i := 0) (vs := [_]) rfl rfl)) rfl ?_
      refine w_pure want_none (y_fieldAddr (o := 4) (i := 4) Try.underlying60 rfl Try.sizeOf23 rfl rfl rfl) rfl ?_
      refine w_pure want_none (y_fieldAddr (o := 0) (i := 0) Try.underlying23 rfl Try.sizeOf3 rfl rfl rfl) rfl ?_
      refine w_pure want_none (y_load1 Try.isAgg3 hs74 rfl rfl (ats_own (i := 0) (vs := [_]) rfl rfl)) rfl ?_
      refine w_pure want_none (y_fieldAddr (o := 4) (i := 4) Try.underlying68 rfl Try.sizeOf5 rfl rfl rfl) rfl ?_
      refine w_pure want_none (y_load1 Try.isAgg5 hs74.tail.tail.tail.tail rfl rfl (show Ats _ _ _ _ [_] from Ats.part hbx4 4 1)) rfl ?_
      refine w_pure want_none (y_u8int (by rw [Try.underlying5]; rfl) Try.underlying3 rfl rfl (by omega) (by omega)) rfl ?_
      refine w_pure want_none (y_rem rfl rfl rfl rfl (by omega) (by omega)) rfl ?_
      refine w_pure want_none (y_add rfl rfl rfl rfl (by omega) (by omega)) rfl ?_
      refine w_pure want_none (y_min2 rfl rfl rfl rfl) rfl ?_
      refine w_pure want_none (y_fieldAddr (o := 4) (i := 4) Try.underlying60 rfl Try.sizeOf23 rfl rfl rfl) rfl ?_
      refine w_pure want_none (y_fieldAddr (o := 0) (i := 0) Try.underlying23 rfl Try.sizeOf3 rfl rfl rfl) rfl ?_
      refine w_store (i := 0) (v := .int _ _) (vs := [_]) want_none Try.sizeOf3 rfl rfl rfl rfl rfl (by simp [Value.oneCell']) hs74 rfl (Nat.le_of_ble_eq_true rfl) (fun w77 hs78 => ?_)
      refine w_nil ?_
      refine q_then (hK75 _ _ ?_)
      refine w_region ?_
      refine w_pure want_none (y_fieldAddr (o := 3) (i := 2) Try.underlying26 rfl Try.sizeOf24 rfl rfl rfl) rfl ?_
      refine w_pure want_none (y_load1 Try.isAgg24 hs78 rfl rfl (ats_own (i := 2) (vs := [_]) rfl rfl)) rfl ?_
      refine w_pure want_none (y_move (v := .int _ _) rfl rfl) rfl ?_
      refine w_pure want_none (y_loadN (vs := [_, _, _, _, _, _]) Try.isAgg60 Try.sizeOf60 hs78 rfl rfl (ats_own (i := 0) (vs := [_, _, _, _, _, _]) rfl rfl)) rfl ?_
      refine w_pure want_none (y_indexS Try.underlying24 Try.sizeOf60 rfl rfl rfl rfl (i := _) rfl (by omega)) rfl ?_
      refine w_store (i := 1) (v := .agg #[_, _, _, _, _, _]) (vs := [.string p.farms[i].name, .int .i64 p.farms[i].way, .int .i64 p.farms[i].notice, .int .i64 (min 9 (p.farms[i].keep + x3 % 3)), .int .i64 (min p.farms[i].hi (p.farms[i].lo + x4 % 10)), .int .i64 p.farms[i].hi]) want_none Try.sizeOf60 rfl rfl rfl rfl rfl (by simp [Value.oneCell']) hs78 rfl (show 0 + i * 6 + 6 ≤ cs.length by omega) (fun w79 hs80 => ?_)
      have hcs2 := easy_cells (min p.farms[i].hi (p.farms[i].lo + x4 % 10)) hi hcs
      replace hs80 := (show St _ _ (_ :: (bk, blk 60 (setMany cs (i * 6) [.string p.farms[i].name, .int .i64 p.farms[i].way, .int .i64 p.farms[i].notice, .int .i64 (min 9 (p.farms[i].keep + x3 % 3)), .int .i64 (min p.farms[i].hi (p.farms[i].lo + x4 % 10)), .int .i64 p.farms[i].hi])) :: _ :: _ :: _ :: _ :: F) from (by have h6 := hs80; simp only [Nat.zero_add] at h6; exact h6))
      refine w_nil ?_
      refine q_then (hK52 _ _ ?_)
      refine w_seq (fun K82 hK81 => ?_)
      have hb7 := ats_of hs80 (i := 3) (off := 0) (vs := [_, _, _, _]) rfl rfl
      have hb8 := ats_of hs80 (i := 2) (off := 0) (vs := [_, _, _, _]) rfl rfl
      have hsz : Sl w0 _ (some ⟨bk, 0, none⟩) 6 (rows (easyL p.farms i (min 9 (p.farms[i].keep + x3 % 3)) (min p.farms[i].hi (p.farms[i].lo + x4 % 10)))) := (fun {L : List (Nat × Obj)} (hs : St w0 _ L) (h : L[1]? = some (bk, blk 60 _)) => sl_own_rows (w0 := w0) h (easyL_len _ _ _ _) hcs2) hs80 rfl
      have hez : planE p = 0 → planE (easyP p Hh A Bq i (min 9 (p.farms[i].keep + x3 % 3)) (min p.farms[i].hi (p.farms[i].lo + x4 % 10))) = 0 := easy_plan hck (by omega) (by omega) (by omega) (by omega) (by omega) hi (by omega) (by omega) (by omega) (by omega)
      refine w_region ?_
      refine w_pure want_none (y_loadN (vs := [_, _, _, _]) Try.isAgg26 Try.sizeOf26 hs80.tail.tail.tail.tail.tail rfl rfl hbx3) rfl ?_
      refine w_pure want_none (y_move (v := .slice _ _ _) rfl rfl) rfl ?_
      refine w_call want_none Try.call40 rfl rfl rfl rfl (c40 p _ _ (by omega) _ _ y hyl hys.cons.cons.cons.cons.cons.cons hyr hs80) ?_
      rintro _ w84 ⟨B2, aq2, cq2, rfl, h_B2, hs85⟩
      replace hs85 := (show St _ _ (B2 ++ (_ :: _ :: _ :: _ :: _ :: _ :: F)) from hs85)
      refine w_pure want_none (y_assign (v := .slice _ _ _) rfl rfl) rfl ?_
      refine w_nil ?_
      refine q_then (hK81 _ _ ?_)
      refine w_seq (fun K87 hK86 => ?_)
      refine w_region ?_
      refine w_pure want_none (y_loadN (vs := [_, _, _, _]) Try.isAgg26 Try.sizeOf26 hs85.drop.tail.tail.tail.tail.tail rfl rfl hbx3) rfl ?_
      refine w_pure want_none (y_move (v := .slice _ _ _) rfl rfl) rfl ?_
      refine w_call want_none Try.call24 rfl rfl rfl rfl (c24 p _ _ (by have : p.farms.length = p.farms.length := rfl; omega) (by have : p.farms.length = p.farms.length := rfl; omega) ha.cons.cons.cons.cons.cons.cons.app hnm _ _ (anyC p.farms.length y) (by rw [any_len]; omega) h_B2 hs85) ?_
      rintro _ w89 ⟨rfl, hs90⟩
      refine w_pure want_none (y_move (v := .tuple _) rfl rfl) rfl ?_
      refine w_pure want_none (y_extract (v := .int _ _) rfl rfl rfl) rfl ?_
      refine w_pure want_none (y_extract (v := .int _ _) rfl rfl rfl) rfl ?_
      refine w_pure want_none (y_assign (v := .int _ _) rfl rfl) rfl ?_
      refine w_pure want_none (y_assign (v := .int _ _) rfl rfl) rfl ?_
      refine w_nil ?_
      refine q_then (hK86 _ _ ?_)
      refine w_seq (fun K92 hK91 => ?_)
      refine w_region ?_
      refine w_pure want_none (y_loadN (vs := [_, _, _, _]) Try.isAgg26 Try.sizeOf26 hs90.drop rfl rfl hb7) rfl ?_
      refine w_pure want_none (y_move (v := .slice _ _ _) rfl rfl) rfl ?_
      refine w_call want_none Try.call24 rfl rfl rfl rfl (c24 (shortP p A Bq) _ _ (by have : (shortP p A Bq).farms.length = p.farms.length := rfl; omega) (by have : (shortP p A Bq).farms.length = p.farms.length := rfl; omega) ha.cons.cons.cons.cons.cons.cons.app hnm _ _ (anyC p.farms.length y) (by rw [any_len]; omega) h_B2 hs90) ?_
      rintro _ w94 ⟨rfl, hs95⟩
      refine w_pure want_none (y_move (v := .tuple _) rfl rfl) rfl ?_
      refine w_pure want_none (y_extract (v := .int _ _) rfl rfl rfl) rfl ?_
      refine w_pure want_none (y_extract (v := .int _ _) rfl rfl rfl) rfl ?_
      refine w_pure want_none (y_assign (v := .int _ _) rfl rfl) rfl ?_
      refine w_pure want_none (y_assign (v := .int _ _) rfl rfl) rfl ?_
      refine w_nil ?_
      refine q_then (hK91 _ _ ?_)
      refine w_seq (fun K97 hK96 => ?_)
      refine w_region ?_
      refine w_pure want_none (y_loadN (vs := [_, _, _, _]) Try.isAgg26 Try.sizeOf26 hs95.drop.tail.tail.tail.tail.tail rfl rfl hbx3) rfl ?_
      refine w_call want_none Try.call26 rfl rfl rfl rfl (c26 p _ _ (by omega) (by omega) ha.cons.cons.cons.cons.cons.cons.app hnm hs95) ?_
      rintro _ w99 ⟨B4, aq4, cq4, rfl, h_B4, hs100⟩
      replace hs100 := (show St _ _ (B4 ++ (B2 ++ (_ :: _ :: _ :: _ :: _ :: _ :: F))) from hs100)
      refine w_pure want_none (y_move (v := .tuple _) rfl rfl) rfl ?_
      refine w_pure want_none (y_extract (v := .slice _ _ _) rfl rfl rfl) rfl ?_
      refine w_pure want_none (y_extract (v := .int _ _) rfl rfl rfl) rfl ?_
      refine w_pure want_none (y_extract (v := .int _ _) rfl rfl rfl) rfl ?_
      refine w_pure want_none (y_assign (v := .slice _ _ _) rfl rfl) rfl ?_
      refine w_pure want_none (y_assign (v := .int _ _) rfl rfl) rfl ?_
      refine w_pure want_none (y_assign (v := .int _ _) rfl rfl) rfl ?_
      refine w_nil ?_
      refine q_then (hK96 _ _ ?_)
      refine w_seq (fun K102 hK101 => ?_)
      refine w_region ?_
      refine w_pure want_none (y_loadN (vs := [_, _, _, _]) Try.isAgg26 Try.sizeOf26 hs100.drop.drop rfl rfl hb8) rfl ?_
      refine w_call want_none Try.call26 rfl rfl rfl rfl (c26e p Hh A Bq i (min 9 (p.farms[i].keep + x3 % 3)) (min p.farms[i].hi (p.farms[i].lo + x4 % 10)) _ _ (by omega) hcap hsz.app.app hnm hs100) ?_
      rintro _ w104 ⟨B5, aq5, cq5, rfl, h_B5, hs105⟩
      replace hs105 := (show St _ _ (B5 ++ (B4 ++ (B2 ++ (_ :: _ :: _ :: _ :: _ :: _ :: F)))) from hs105)
      refine w_pure want_none (y_move (v := .tuple _) rfl rfl) rfl ?_
      refine w_pure want_none (y_extract (v := .slice _ _ _) rfl rfl rfl) rfl ?_
      refine w_pure want_none (y_extract (v := .int _ _) rfl rfl rfl) rfl ?_
      refine w_pure want_none (y_extract (v := .int _ _) rfl rfl rfl) rfl ?_
      refine w_pure want_none (y_assign (v := .slice _ _ _) rfl rfl) rfl ?_
      refine w_pure want_none (y_assign (v := .int _ _) rfl rfl) rfl ?_
      refine w_pure want_none (y_assign (v := .int _ _) rfl rfl) rfl ?_
      refine w_nil ?_
      refine q_then (hK101 _ _ ?_)
      refine w_seq (fun K107 hK106 => ?_)
      have hee := enter_any hck (any_len _ y) any_in
      have hes : enterErr (shortP p A Bq) (anyC p.farms.length y) = 0 := enter_any (p := shortP p A Bq) (short_check hck (a := A) (b := Bq) (by omega) (by omega) (by omega)) (any_len _ y) any_in
      have hv1 := vainR_eq hee
      have hv2 := vainR_eq hes
      have hv3 := short_vain hck (a := A) (b := Bq) (by omega) (by omega) (by omega) (anyC p.farms.length y)
      refine w_region ?_
      refine w_pure want_none (y_move (v := .int _ _) rfl rfl) rfl ?_
      refine w_pure want_none (y_eql rfl rfl rfl rfl) rfl ?_
      refine w_pure want_none (y_move (v := .bool _) rfl rfl) rfl ?_
      refine w_split (fun h108 => ?_) (fun h108 => ?_)
      ·
        try simp only [Bool.not_eq_true', Bool.not_eq_false', decide_eq_true_eq, decide_eq_false_iff_not, Int.not_lt, Int.not_le] at h108
        refine w_pure (want_yes rfl rfl rfl) (y_move (v := .int _ _) rfl rfl) rfl ?_
        refine w_pure (want_yes rfl rfl rfl) (y_eql rfl rfl rfl rfl) rfl ?_
        refine w_pure want_none (y_pickT (v := .bool _) rfl rfl rfl rfl) rfl ?_
        refine w_pure want_none (y_move (v := .bool _) rfl rfl) rfl ?_
        refine w_split (fun h109 => ?_) (fun h109 => ?_)
        ·
          try simp only [Bool.not_eq_true', Bool.not_eq_false', decide_eq_true_eq, decide_eq_false_iff_not, Int.not_lt, Int.not_le] at h109
          refine w_pure (want_yes rfl rfl rfl) (y_move (v := .int _ _) rfl rfl) rfl ?_
          refine w_pure (want_yes rfl rfl rfl) (y_move (v := .int _ _) rfl rfl) rfl ?_
          refine w_pure (want_yes rfl rfl rfl) (y_leq rfl rfl rfl rfl) rfl ?_
          refine w_pure want_none (y_pickT (v := .bool _) rfl rfl rfl rfl) rfl ?_
          refine w_pure want_none (y_move (v := .bool _) rfl rfl) rfl ?_
          refine w_split (fun h110 => ?_) (fun h110 => ?_)
          ·
            try simp only [Bool.not_eq_true', Bool.not_eq_false', decide_eq_true_eq, decide_eq_false_iff_not, Int.not_lt, Int.not_le] at h110
            refine w_pure (want_yes rfl rfl rfl) (y_move (v := .int _ _) rfl rfl) rfl ?_
            refine w_pure (want_yes rfl rfl rfl) (y_eql rfl rfl rfl rfl) rfl ?_
            refine w_pure (want_yes rfl rfl rfl) (y_move (v := .bool _) rfl rfl) rfl ?_
            refine w_split (fun h111 => ?_) (fun h111 => ?_)
            ·
              try simp only [Bool.not_eq_true', Bool.not_eq_false', decide_eq_true_eq, decide_eq_false_iff_not, Int.not_lt, Int.not_le] at h111
              refine w_skipop rfl rfl rfl ?_
              refine w_skipop rfl rfl rfl ?_
              refine w_pure (want_yes rfl rfl rfl) (y_pickT (v := _) rfl rfl rfl rfl) rfl ?_
              refine w_pure want_none (y_pickT (v := .bool _) rfl rfl rfl rfl) rfl ?_
              refine w_pure want_none (y_move (v := .bool _) rfl rfl) rfl ?_
              refine w_pure (want_yes rfl rfl rfl) (y_move (v := .int _ _) rfl rfl) rfl ?_
              refine w_pure (want_yes rfl rfl rfl) (y_neq rfl rfl rfl rfl) rfl ?_
              refine w_pure (want_yes rfl rfl rfl) (y_move (v := .bool _) rfl rfl) rfl ?_
              refine w_split (fun h112 => ?_) (fun h112 => ?_)
              ·
                try simp only [Bool.not_eq_true', Bool.not_eq_false', decide_eq_true_eq, decide_eq_false_iff_not, Int.not_lt, Int.not_le] at h112
                refine w_skipop rfl rfl rfl ?_
                refine w_skipop rfl rfl rfl ?_
                refine w_pure (want_yes rfl rfl rfl) (y_pickT (v := _) rfl rfl rfl rfl) rfl ?_
                refine w_pure want_none (y_pickT (v := .bool _) rfl rfl rfl rfl) rfl ?_
                refine w_pure want_none (y_move (v := .bool _) rfl rfl) rfl ?_
                refine w_call (want_yes rfl rfl rfl) Try.call23 rfl rfl rfl rfl (c23 hs105) ?_
                rintro _ w114 ⟨rfl, hs115⟩
                refine w_pure want_none (y_pickT (v := .bool _) rfl rfl rfl rfl) rfl ?_
                refine w_pure want_none (y_assign (v := .bool _) rfl rfl) rfl ?_
                refine w_nil ?_
                refine q_then (hK106 _ _ ?_)
                refine w_ret ?_
                refine q_ret (l := [.tmp 6]) (vs := [_]) rfl ⟨⟨rfl, show _ = (.bool _ : Value) from rfl⟩, trivial⟩ ?_
                exact ⟨rfl, hs115.drop.drop.drop.tail.tail.tail.tail.tail.tail⟩
              ·
                try simp only [Bool.not_eq_true', Bool.not_eq_false', decide_eq_true_eq, decide_eq_false_iff_not, Int.not_lt, Int.not_le] at h112
                refine w_pure (want_yes rfl rfl rfl) (y_move (v := .int _ _) rfl rfl) rfl ?_
                refine w_pure (want_yes rfl rfl rfl) (y_eql rfl rfl rfl rfl) rfl ?_
                refine w_pure (want_yes rfl rfl rfl) (y_pickF (v := .bool _) rfl rfl rfl rfl) rfl ?_
                refine w_pure want_none (y_pickT (v := .bool _) rfl rfl rfl rfl) rfl ?_
                refine w_pure want_none (y_move (v := .bool _) rfl rfl) rfl ?_
                refine w_split (fun h116 => ?_) (fun h116 => ?_)
                ·
                  try simp only [Bool.not_eq_true', Bool.not_eq_false', decide_eq_true_eq, decide_eq_false_iff_not, Int.not_lt, Int.not_le] at h116
                  refine w_call (want_yes rfl rfl rfl) Try.call23 rfl rfl rfl rfl (c23 hs105) ?_
                  rintro _ w118 ⟨rfl, hs119⟩
                  refine w_pure want_none (y_pickT (v := .bool _) rfl rfl rfl rfl) rfl ?_
                  refine w_pure want_none (y_assign (v := .bool _) rfl rfl) rfl ?_
                  refine w_nil ?_
                  refine q_then (hK106 _ _ ?_)
                  refine w_ret ?_
                  refine q_ret (l := [.tmp 6]) (vs := [_]) rfl ⟨⟨rfl, show _ = (.bool _ : Value) from rfl⟩, trivial⟩ ?_
                  exact ⟨rfl, hs119.drop.drop.drop.tail.tail.tail.tail.tail.tail⟩
                ·
                  exfalso
                  try simp only [Bool.not_eq_true', Bool.not_eq_false', decide_eq_true_eq, decide_eq_false_iff_not, Int.not_lt, Int.not_le] at h116
                  omega
            ·
              try simp only [Bool.not_eq_true', Bool.not_eq_false', decide_eq_true_eq, decide_eq_false_iff_not, Int.not_lt, Int.not_le] at h111
              refine w_pure (want_yes rfl rfl rfl) (y_move (v := .int _ _) rfl rfl) rfl ?_
              refine w_pure (want_yes rfl rfl rfl) (y_eql rfl rfl rfl rfl) rfl ?_
              refine w_pure (want_yes rfl rfl rfl) (y_pickF (v := .bool _) rfl rfl rfl rfl) rfl ?_
              refine w_pure want_none (y_pickT (v := .bool _) rfl rfl rfl rfl) rfl ?_
              refine w_pure want_none (y_move (v := .bool _) rfl rfl) rfl ?_
              refine w_split (fun h120 => ?_) (fun h120 => ?_)
              ·
                try simp only [Bool.not_eq_true', Bool.not_eq_false', decide_eq_true_eq, decide_eq_false_iff_not, Int.not_lt, Int.not_le] at h120
                refine w_pure (want_yes rfl rfl rfl) (y_move (v := .int _ _) rfl rfl) rfl ?_
                refine w_pure (want_yes rfl rfl rfl) (y_neq rfl rfl rfl rfl) rfl ?_
                refine w_pure (want_yes rfl rfl rfl) (y_move (v := .bool _) rfl rfl) rfl ?_
                refine w_split (fun h121 => ?_) (fun h121 => ?_)
                ·
                  try simp only [Bool.not_eq_true', Bool.not_eq_false', decide_eq_true_eq, decide_eq_false_iff_not, Int.not_lt, Int.not_le] at h121
                  refine w_skipop rfl rfl rfl ?_
                  refine w_skipop rfl rfl rfl ?_
                  refine w_pure (want_yes rfl rfl rfl) (y_pickT (v := _) rfl rfl rfl rfl) rfl ?_
                  refine w_pure want_none (y_pickT (v := .bool _) rfl rfl rfl rfl) rfl ?_
                  refine w_pure want_none (y_move (v := .bool _) rfl rfl) rfl ?_
                  refine w_call (want_yes rfl rfl rfl) Try.call23 rfl rfl rfl rfl (c23 hs105) ?_
                  rintro _ w123 ⟨rfl, hs124⟩
                  refine w_pure want_none (y_pickT (v := .bool _) rfl rfl rfl rfl) rfl ?_
                  refine w_pure want_none (y_assign (v := .bool _) rfl rfl) rfl ?_
                  refine w_nil ?_
                  refine q_then (hK106 _ _ ?_)
                  refine w_ret ?_
                  refine q_ret (l := [.tmp 6]) (vs := [_]) rfl ⟨⟨rfl, show _ = (.bool _ : Value) from rfl⟩, trivial⟩ ?_
                  exact ⟨rfl, hs124.drop.drop.drop.tail.tail.tail.tail.tail.tail⟩
                ·
                  try simp only [Bool.not_eq_true', Bool.not_eq_false', decide_eq_true_eq, decide_eq_false_iff_not, Int.not_lt, Int.not_le] at h121
                  refine w_pure (want_yes rfl rfl rfl) (y_move (v := .int _ _) rfl rfl) rfl ?_
                  refine w_pure (want_yes rfl rfl rfl) (y_eql rfl rfl rfl rfl) rfl ?_
                  refine w_pure (want_yes rfl rfl rfl) (y_pickF (v := .bool _) rfl rfl rfl rfl) rfl ?_
                  refine w_pure want_none (y_pickT (v := .bool _) rfl rfl rfl rfl) rfl ?_
                  refine w_pure want_none (y_move (v := .bool _) rfl rfl) rfl ?_
                  refine w_split (fun h125 => ?_) (fun h125 => ?_)
                  ·
                    try simp only [Bool.not_eq_true', Bool.not_eq_false', decide_eq_true_eq, decide_eq_false_iff_not, Int.not_lt, Int.not_le] at h125
                    refine w_call (want_yes rfl rfl rfl) Try.call23 rfl rfl rfl rfl (c23 hs105) ?_
                    rintro _ w127 ⟨rfl, hs128⟩
                    refine w_pure want_none (y_pickT (v := .bool _) rfl rfl rfl rfl) rfl ?_
                    refine w_pure want_none (y_assign (v := .bool _) rfl rfl) rfl ?_
                    refine w_nil ?_
                    refine q_then (hK106 _ _ ?_)
                    refine w_ret ?_
                    refine q_ret (l := [.tmp 6]) (vs := [_]) rfl ⟨⟨rfl, show _ = (.bool _ : Value) from rfl⟩, trivial⟩ ?_
                    exact ⟨rfl, hs128.drop.drop.drop.tail.tail.tail.tail.tail.tail⟩
                  ·
                    exfalso
                    try simp only [Bool.not_eq_true', Bool.not_eq_false', decide_eq_true_eq, decide_eq_false_iff_not, Int.not_lt, Int.not_le] at h125
                    omega
              ·
                exfalso
                try simp only [Bool.not_eq_true', Bool.not_eq_false', decide_eq_true_eq, decide_eq_false_iff_not, Int.not_lt, Int.not_le] at h120
                omega
          ·
            exfalso
            try simp only [Bool.not_eq_true', Bool.not_eq_false', decide_eq_true_eq, decide_eq_false_iff_not, Int.not_lt, Int.not_le] at h110
            omega
        ·
          exfalso
          try simp only [Bool.not_eq_true', Bool.not_eq_false', decide_eq_true_eq, decide_eq_false_iff_not, Int.not_lt, Int.not_le] at h109
          omega
      ·
        exfalso
        try simp only [Bool.not_eq_true', Bool.not_eq_false', decide_eq_true_eq, decide_eq_false_iff_not, Int.not_lt, Int.not_le] at h108
        omega
    ·
      try simp only [Bool.not_eq_true', Bool.not_eq_false', decide_eq_true_eq, decide_eq_false_iff_not, Int.not_lt, Int.not_le] at h56
      refine w_skip ?_
      refine q_then (hK52 _ _ ?_)
      refine w_seq (fun K130 hK129 => ?_)
      have hb7 := ats_of hs51 (i := 1) (off := 0) (vs := [_, _, _, _]) rfl rfl
      have hb8 := ats_of hs51 (i := 0) (off := 0) (vs := [_, _, _, _]) rfl rfl
      have hez : planE p = 0 → planE (⟨Hh, A, Bq, p.farms⟩ : Port) = 0 := short_plan hck (by omega) (by omega) (by omega) (by omega) (by omega)
      refine w_region ?_
      refine w_pure want_none (y_loadN (vs := [_, _, _, _]) Try.isAgg26 Try.sizeOf26 hs51.tail.tail.tail rfl rfl hbx3) rfl ?_
      refine w_pure want_none (y_move (v := .slice _ _ _) rfl rfl) rfl ?_
      refine w_call want_none Try.call40 rfl rfl rfl rfl (c40 p _ _ (by omega) _ _ y hyl hys.cons.cons.cons.cons hyr hs51) ?_
      rintro _ w132 ⟨B2, aq2, cq2, rfl, h_B2, hs133⟩
      replace hs133 := (show St _ _ (B2 ++ (_ :: _ :: _ :: _ :: F)) from hs133)
      refine w_pure want_none (y_assign (v := .slice _ _ _) rfl rfl) rfl ?_
      refine w_nil ?_
      refine q_then (hK129 _ _ ?_)
      refine w_seq (fun K135 hK134 => ?_)
      refine w_region ?_
      refine w_pure want_none (y_loadN (vs := [_, _, _, _]) Try.isAgg26 Try.sizeOf26 hs133.drop.tail.tail.tail rfl rfl hbx3) rfl ?_
      refine w_pure want_none (y_move (v := .slice _ _ _) rfl rfl) rfl ?_
      refine w_call want_none Try.call24 rfl rfl rfl rfl (c24 p _ _ (by have : p.farms.length = p.farms.length := rfl; omega) (by have : p.farms.length = p.farms.length := rfl; omega) ha.cons.cons.cons.cons.app hnm _ _ (anyC p.farms.length y) (by rw [any_len]; omega) h_B2 hs133) ?_
      rintro _ w137 ⟨rfl, hs138⟩
      refine w_pure want_none (y_move (v := .tuple _) rfl rfl) rfl ?_
      refine w_pure want_none (y_extract (v := .int _ _) rfl rfl rfl) rfl ?_
      refine w_pure want_none (y_extract (v := .int _ _) rfl rfl rfl) rfl ?_
      refine w_pure want_none (y_assign (v := .int _ _) rfl rfl) rfl ?_
      refine w_pure want_none (y_assign (v := .int _ _) rfl rfl) rfl ?_
      refine w_nil ?_
      refine q_then (hK134 _ _ ?_)
      refine w_seq (fun K140 hK139 => ?_)
      refine w_region ?_
      refine w_pure want_none (y_loadN (vs := [_, _, _, _]) Try.isAgg26 Try.sizeOf26 hs138.drop rfl rfl hb7) rfl ?_
      refine w_pure want_none (y_move (v := .slice _ _ _) rfl rfl) rfl ?_
      refine w_call want_none Try.call24 rfl rfl rfl rfl (c24 (shortP p A Bq) _ _ (by have : (shortP p A Bq).farms.length = p.farms.length := rfl; omega) (by have : (shortP p A Bq).farms.length = p.farms.length := rfl; omega) ha.cons.cons.cons.cons.app hnm _ _ (anyC p.farms.length y) (by rw [any_len]; omega) h_B2 hs138) ?_
      rintro _ w142 ⟨rfl, hs143⟩
      refine w_pure want_none (y_move (v := .tuple _) rfl rfl) rfl ?_
      refine w_pure want_none (y_extract (v := .int _ _) rfl rfl rfl) rfl ?_
      refine w_pure want_none (y_extract (v := .int _ _) rfl rfl rfl) rfl ?_
      refine w_pure want_none (y_assign (v := .int _ _) rfl rfl) rfl ?_
      refine w_pure want_none (y_assign (v := .int _ _) rfl rfl) rfl ?_
      refine w_nil ?_
      refine q_then (hK139 _ _ ?_)
      refine w_seq (fun K145 hK144 => ?_)
      refine w_region ?_
      refine w_pure want_none (y_loadN (vs := [_, _, _, _]) Try.isAgg26 Try.sizeOf26 hs143.drop.tail.tail.tail rfl rfl hbx3) rfl ?_
      refine w_call want_none Try.call26 rfl rfl rfl rfl (c26 p _ _ (by omega) (by omega) ha.cons.cons.cons.cons.app hnm hs143) ?_
      rintro _ w147 ⟨B4, aq4, cq4, rfl, h_B4, hs148⟩
      replace hs148 := (show St _ _ (B4 ++ (B2 ++ (_ :: _ :: _ :: _ :: F))) from hs148)
      refine w_pure want_none (y_move (v := .tuple _) rfl rfl) rfl ?_
      refine w_pure want_none (y_extract (v := .slice _ _ _) rfl rfl rfl) rfl ?_
      refine w_pure want_none (y_extract (v := .int _ _) rfl rfl rfl) rfl ?_
      refine w_pure want_none (y_extract (v := .int _ _) rfl rfl rfl) rfl ?_
      refine w_pure want_none (y_assign (v := .slice _ _ _) rfl rfl) rfl ?_
      refine w_pure want_none (y_assign (v := .int _ _) rfl rfl) rfl ?_
      refine w_pure want_none (y_assign (v := .int _ _) rfl rfl) rfl ?_
      refine w_nil ?_
      refine q_then (hK144 _ _ ?_)
      refine w_seq (fun K150 hK149 => ?_)
      refine w_region ?_
      refine w_pure want_none (y_loadN (vs := [_, _, _, _]) Try.isAgg26 Try.sizeOf26 hs148.drop.drop rfl rfl hb8) rfl ?_
      refine w_call want_none Try.call26 rfl rfl rfl rfl (c26 (⟨Hh, A, Bq, p.farms⟩ : Port) _ _ (show p.farms.length ≤ _ by omega) (show p.farms.length ≤ _ by omega) ha.cons.cons.cons.cons.app.app hnm hs148) ?_
      rintro _ w152 ⟨B5, aq5, cq5, rfl, h_B5, hs153⟩
      replace hs153 := (show St _ _ (B5 ++ (B4 ++ (B2 ++ (_ :: _ :: _ :: _ :: F)))) from hs153)
      refine w_pure want_none (y_move (v := .tuple _) rfl rfl) rfl ?_
      refine w_pure want_none (y_extract (v := .slice _ _ _) rfl rfl rfl) rfl ?_
      refine w_pure want_none (y_extract (v := .int _ _) rfl rfl rfl) rfl ?_
      refine w_pure want_none (y_extract (v := .int _ _) rfl rfl rfl) rfl ?_
      refine w_pure want_none (y_assign (v := .slice _ _ _) rfl rfl) rfl ?_
      refine w_pure want_none (y_assign (v := .int _ _) rfl rfl) rfl ?_
      refine w_pure want_none (y_assign (v := .int _ _) rfl rfl) rfl ?_
      refine w_nil ?_
      refine q_then (hK149 _ _ ?_)
      refine w_seq (fun K155 hK154 => ?_)
      have hee := enter_any hck (any_len _ y) any_in
      have hes : enterErr (shortP p A Bq) (anyC p.farms.length y) = 0 := enter_any (p := shortP p A Bq) (short_check hck (a := A) (b := Bq) (by omega) (by omega) (by omega)) (any_len _ y) any_in
      have hv1 := vainR_eq hee
      have hv2 := vainR_eq hes
      have hv3 := short_vain hck (a := A) (b := Bq) (by omega) (by omega) (by omega) (anyC p.farms.length y)
      refine w_region ?_
      refine w_pure want_none (y_move (v := .int _ _) rfl rfl) rfl ?_
      refine w_pure want_none (y_eql rfl rfl rfl rfl) rfl ?_
      refine w_pure want_none (y_move (v := .bool _) rfl rfl) rfl ?_
      refine w_split (fun h156 => ?_) (fun h156 => ?_)
      ·
        try simp only [Bool.not_eq_true', Bool.not_eq_false', decide_eq_true_eq, decide_eq_false_iff_not, Int.not_lt, Int.not_le] at h156
        refine w_pure (want_yes rfl rfl rfl) (y_move (v := .int _ _) rfl rfl) rfl ?_
        refine w_pure (want_yes rfl rfl rfl) (y_eql rfl rfl rfl rfl) rfl ?_
        refine w_pure want_none (y_pickT (v := .bool _) rfl rfl rfl rfl) rfl ?_
        refine w_pure want_none (y_move (v := .bool _) rfl rfl) rfl ?_
        refine w_split (fun h157 => ?_) (fun h157 => ?_)
        ·
          try simp only [Bool.not_eq_true', Bool.not_eq_false', decide_eq_true_eq, decide_eq_false_iff_not, Int.not_lt, Int.not_le] at h157
          refine w_pure (want_yes rfl rfl rfl) (y_move (v := .int _ _) rfl rfl) rfl ?_
          refine w_pure (want_yes rfl rfl rfl) (y_move (v := .int _ _) rfl rfl) rfl ?_
          refine w_pure (want_yes rfl rfl rfl) (y_leq rfl rfl rfl rfl) rfl ?_
          refine w_pure want_none (y_pickT (v := .bool _) rfl rfl rfl rfl) rfl ?_
          refine w_pure want_none (y_move (v := .bool _) rfl rfl) rfl ?_
          refine w_split (fun h158 => ?_) (fun h158 => ?_)
          ·
            try simp only [Bool.not_eq_true', Bool.not_eq_false', decide_eq_true_eq, decide_eq_false_iff_not, Int.not_lt, Int.not_le] at h158
            refine w_pure (want_yes rfl rfl rfl) (y_move (v := .int _ _) rfl rfl) rfl ?_
            refine w_pure (want_yes rfl rfl rfl) (y_eql rfl rfl rfl rfl) rfl ?_
            refine w_pure (want_yes rfl rfl rfl) (y_move (v := .bool _) rfl rfl) rfl ?_
            refine w_split (fun h159 => ?_) (fun h159 => ?_)
            ·
              try simp only [Bool.not_eq_true', Bool.not_eq_false', decide_eq_true_eq, decide_eq_false_iff_not, Int.not_lt, Int.not_le] at h159
              refine w_skipop rfl rfl rfl ?_
              refine w_skipop rfl rfl rfl ?_
              refine w_pure (want_yes rfl rfl rfl) (y_pickT (v := _) rfl rfl rfl rfl) rfl ?_
              refine w_pure want_none (y_pickT (v := .bool _) rfl rfl rfl rfl) rfl ?_
              refine w_pure want_none (y_move (v := .bool _) rfl rfl) rfl ?_
              refine w_pure (want_yes rfl rfl rfl) (y_move (v := .int _ _) rfl rfl) rfl ?_
              refine w_pure (want_yes rfl rfl rfl) (y_neq rfl rfl rfl rfl) rfl ?_
              refine w_pure (want_yes rfl rfl rfl) (y_move (v := .bool _) rfl rfl) rfl ?_
              refine w_split (fun h160 => ?_) (fun h160 => ?_)
              ·
                try simp only [Bool.not_eq_true', Bool.not_eq_false', decide_eq_true_eq, decide_eq_false_iff_not, Int.not_lt, Int.not_le] at h160
                refine w_skipop rfl rfl rfl ?_
                refine w_skipop rfl rfl rfl ?_
                refine w_pure (want_yes rfl rfl rfl) (y_pickT (v := _) rfl rfl rfl rfl) rfl ?_
                refine w_pure want_none (y_pickT (v := .bool _) rfl rfl rfl rfl) rfl ?_
                refine w_pure want_none (y_move (v := .bool _) rfl rfl) rfl ?_
                refine w_call (want_yes rfl rfl rfl) Try.call23 rfl rfl rfl rfl (c23 hs153) ?_
                rintro _ w162 ⟨rfl, hs163⟩
                refine w_pure want_none (y_pickT (v := .bool _) rfl rfl rfl rfl) rfl ?_
                refine w_pure want_none (y_assign (v := .bool _) rfl rfl) rfl ?_
                refine w_nil ?_
                refine q_then (hK154 _ _ ?_)
                refine w_ret ?_
                refine q_ret (l := [.tmp 6]) (vs := [_]) rfl ⟨⟨rfl, show _ = (.bool _ : Value) from rfl⟩, trivial⟩ ?_
                exact ⟨rfl, hs163.drop.drop.drop.tail.tail.tail.tail⟩
              ·
                try simp only [Bool.not_eq_true', Bool.not_eq_false', decide_eq_true_eq, decide_eq_false_iff_not, Int.not_lt, Int.not_le] at h160
                refine w_pure (want_yes rfl rfl rfl) (y_move (v := .int _ _) rfl rfl) rfl ?_
                refine w_pure (want_yes rfl rfl rfl) (y_eql rfl rfl rfl rfl) rfl ?_
                refine w_pure (want_yes rfl rfl rfl) (y_pickF (v := .bool _) rfl rfl rfl rfl) rfl ?_
                refine w_pure want_none (y_pickT (v := .bool _) rfl rfl rfl rfl) rfl ?_
                refine w_pure want_none (y_move (v := .bool _) rfl rfl) rfl ?_
                refine w_split (fun h164 => ?_) (fun h164 => ?_)
                ·
                  try simp only [Bool.not_eq_true', Bool.not_eq_false', decide_eq_true_eq, decide_eq_false_iff_not, Int.not_lt, Int.not_le] at h164
                  refine w_call (want_yes rfl rfl rfl) Try.call23 rfl rfl rfl rfl (c23 hs153) ?_
                  rintro _ w166 ⟨rfl, hs167⟩
                  refine w_pure want_none (y_pickT (v := .bool _) rfl rfl rfl rfl) rfl ?_
                  refine w_pure want_none (y_assign (v := .bool _) rfl rfl) rfl ?_
                  refine w_nil ?_
                  refine q_then (hK154 _ _ ?_)
                  refine w_ret ?_
                  refine q_ret (l := [.tmp 6]) (vs := [_]) rfl ⟨⟨rfl, show _ = (.bool _ : Value) from rfl⟩, trivial⟩ ?_
                  exact ⟨rfl, hs167.drop.drop.drop.tail.tail.tail.tail⟩
                ·
                  exfalso
                  try simp only [Bool.not_eq_true', Bool.not_eq_false', decide_eq_true_eq, decide_eq_false_iff_not, Int.not_lt, Int.not_le] at h164
                  omega
            ·
              try simp only [Bool.not_eq_true', Bool.not_eq_false', decide_eq_true_eq, decide_eq_false_iff_not, Int.not_lt, Int.not_le] at h159
              refine w_pure (want_yes rfl rfl rfl) (y_move (v := .int _ _) rfl rfl) rfl ?_
              refine w_pure (want_yes rfl rfl rfl) (y_eql rfl rfl rfl rfl) rfl ?_
              refine w_pure (want_yes rfl rfl rfl) (y_pickF (v := .bool _) rfl rfl rfl rfl) rfl ?_
              refine w_pure want_none (y_pickT (v := .bool _) rfl rfl rfl rfl) rfl ?_
              refine w_pure want_none (y_move (v := .bool _) rfl rfl) rfl ?_
              refine w_split (fun h168 => ?_) (fun h168 => ?_)
              ·
                try simp only [Bool.not_eq_true', Bool.not_eq_false', decide_eq_true_eq, decide_eq_false_iff_not, Int.not_lt, Int.not_le] at h168
                refine w_pure (want_yes rfl rfl rfl) (y_move (v := .int _ _) rfl rfl) rfl ?_
                refine w_pure (want_yes rfl rfl rfl) (y_neq rfl rfl rfl rfl) rfl ?_
                refine w_pure (want_yes rfl rfl rfl) (y_move (v := .bool _) rfl rfl) rfl ?_
                refine w_split (fun h169 => ?_) (fun h169 => ?_)
                ·
                  try simp only [Bool.not_eq_true', Bool.not_eq_false', decide_eq_true_eq, decide_eq_false_iff_not, Int.not_lt, Int.not_le] at h169
                  refine w_skipop rfl rfl rfl ?_
                  refine w_skipop rfl rfl rfl ?_
                  refine w_pure (want_yes rfl rfl rfl) (y_pickT (v := _) rfl rfl rfl rfl) rfl ?_
                  refine w_pure want_none (y_pickT (v := .bool _) rfl rfl rfl rfl) rfl ?_
                  refine w_pure want_none (y_move (v := .bool _) rfl rfl) rfl ?_
                  refine w_call (want_yes rfl rfl rfl) Try.call23 rfl rfl rfl rfl (c23 hs153) ?_
                  rintro _ w171 ⟨rfl, hs172⟩
                  refine w_pure want_none (y_pickT (v := .bool _) rfl rfl rfl rfl) rfl ?_
                  refine w_pure want_none (y_assign (v := .bool _) rfl rfl) rfl ?_
                  refine w_nil ?_
                  refine q_then (hK154 _ _ ?_)
                  refine w_ret ?_
                  refine q_ret (l := [.tmp 6]) (vs := [_]) rfl ⟨⟨rfl, show _ = (.bool _ : Value) from rfl⟩, trivial⟩ ?_
                  exact ⟨rfl, hs172.drop.drop.drop.tail.tail.tail.tail⟩
                ·
                  try simp only [Bool.not_eq_true', Bool.not_eq_false', decide_eq_true_eq, decide_eq_false_iff_not, Int.not_lt, Int.not_le] at h169
                  refine w_pure (want_yes rfl rfl rfl) (y_move (v := .int _ _) rfl rfl) rfl ?_
                  refine w_pure (want_yes rfl rfl rfl) (y_eql rfl rfl rfl rfl) rfl ?_
                  refine w_pure (want_yes rfl rfl rfl) (y_pickF (v := .bool _) rfl rfl rfl rfl) rfl ?_
                  refine w_pure want_none (y_pickT (v := .bool _) rfl rfl rfl rfl) rfl ?_
                  refine w_pure want_none (y_move (v := .bool _) rfl rfl) rfl ?_
                  refine w_split (fun h173 => ?_) (fun h173 => ?_)
                  ·
                    try simp only [Bool.not_eq_true', Bool.not_eq_false', decide_eq_true_eq, decide_eq_false_iff_not, Int.not_lt, Int.not_le] at h173
                    refine w_call (want_yes rfl rfl rfl) Try.call23 rfl rfl rfl rfl (c23 hs153) ?_
                    rintro _ w175 ⟨rfl, hs176⟩
                    refine w_pure want_none (y_pickT (v := .bool _) rfl rfl rfl rfl) rfl ?_
                    refine w_pure want_none (y_assign (v := .bool _) rfl rfl) rfl ?_
                    refine w_nil ?_
                    refine q_then (hK154 _ _ ?_)
                    refine w_ret ?_
                    refine q_ret (l := [.tmp 6]) (vs := [_]) rfl ⟨⟨rfl, show _ = (.bool _ : Value) from rfl⟩, trivial⟩ ?_
                    exact ⟨rfl, hs176.drop.drop.drop.tail.tail.tail.tail⟩
                  ·
                    exfalso
                    try simp only [Bool.not_eq_true', Bool.not_eq_false', decide_eq_true_eq, decide_eq_false_iff_not, Int.not_lt, Int.not_le] at h173
                    omega
              ·
                exfalso
                try simp only [Bool.not_eq_true', Bool.not_eq_false', decide_eq_true_eq, decide_eq_false_iff_not, Int.not_lt, Int.not_le] at h168
                omega
          ·
            exfalso
            try simp only [Bool.not_eq_true', Bool.not_eq_false', decide_eq_true_eq, decide_eq_false_iff_not, Int.not_lt, Int.not_le] at h158
            omega
        ·
          exfalso
          try simp only [Bool.not_eq_true', Bool.not_eq_false', decide_eq_true_eq, decide_eq_false_iff_not, Int.not_lt, Int.not_le] at h157
          omega
      ·
        exfalso
        try simp only [Bool.not_eq_true', Bool.not_eq_false', decide_eq_true_eq, decide_eq_false_iff_not, Int.not_lt, Int.not_le] at h156
        omega

end Go.Proofs
