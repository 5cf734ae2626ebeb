/- Own texts of this claim, joined. No conditions. -/
import Derived.Test.YtpbchcophgpchaaGreatHTopGradeda
import Derived.Test.YtpbchcophgpchaaGreatHTopGradedb
import Derived.Test.YtpbchcophgpchaaGreatHTopGradedc
set_option linter.unusedVariables false
set_option linter.unusedSimpArgs false
set_option maxRecDepth 20000
namespace Go.Proofs.Hn
open Go.Proofs.Tryz
open Go.Rt Go.Rt.Ha
attribute [local irreducible] WL WC Con Yd At Ats Sl Agree DW
theorem Try_HJ_fb2 (x0 : Int) (w : World) : (Instr.build 28 [(0, .int .i64 x0)].toArray).run Tryz.prog w = .ok (.agg #[.int .i64 x0, .int .i64 0]) w := by kernel_rfl
theorem Try_HJ_fb3 (x0 : Int) (x1 : Int) (w : World) : (Instr.build 28 [(0, .int .i64 x0), (1, .int .i64 x1)].toArray).run Tryz.prog w = .ok (.agg #[.int .i64 x0, .int .i64 x1]) w := by kernel_rfl
theorem Try_HJ_fb4 (x0 : Int) (x1 : Int) (w : World) : (Instr.build 102 [(0, .int .i64 x0), (1, .int .i64 x1)].toArray).run Tryz.prog w = .ok (.agg #[.int .i64 x0, .int .i64 x1]) w := by kernel_rfl
theorem bounds_perm {p s t u v : Nat × Obj} (X M F : List (Nat × Obj)) : (p :: s :: t :: u :: v :: (X ++ (M ++ F))).Perm ((s :: t :: M) ++ (p :: u :: v :: (X ++ F))) :=
  (zBe [p] [s, t] (u :: v :: (X ++ (M ++ F)))).trans (List.Perm.append_left [s, t] (zBe (p :: u :: v :: X) M F))
theorem bounds_back {w0 w : World} {a b c : Nat × Obj} {X M F : List (Nat × Obj)} (h : St w0 w (M ++ (a :: b :: c :: (X ++ F)))) : St w0 w (X ++ (M ++ F)) := by
  have h1 := (h.perm (zBe M [a, b, c] (X ++ F))).tail.tail.tail
  exact St.perm (L := M ++ (X ++ F)) h1 (zBe M X F)
theorem span_take {b : Nat} {ws : List (List Int)} {i : Nat} (h : i < ws.length) : spanW b (ws.take (i + 1)) = (min (spanW b (ws.take i)).1 (at_ ws[i] b), max (spanW b (ws.take i)).2 (at_ ws[i] b)) := fold_take _ _ h
theorem setW_take {l : Lot} {b : Nat} {ws : List (List Int)} {i : Nat} (h : i < ws.length) : setW l b (ws.take (i + 1)) = setW l b (ws.take i) ||| gradesB l (bunchOf l b) (at_ ws[i] b) := fold_take _ _ h
theorem bounds_cells {b5 b4 : Nat} {M : List (Nat × Obj)} {s s' : Nat} {x y x' y' : Int} (h1 : s = s') (h2 : x = x') (h3 : y = y') : ((b5, blk 3 [.int .i64 (s : Int)]) :: (b4, blk 28 [.int .i64 x, .int .i64 y]) :: M : List (Nat × Obj)) = (b5, blk 3 [.int .i64 (s' : Int)]) :: (b4, blk 28 [.int .i64 x', .int .i64 y']) :: M := by subst h1 h2 h3; rfl
theorem c58 {w0 w : World} {X M F : List (Nat × Obj)} (l : Lot) (p : At3) (but lb mm : Nat) (hk : LK w0 F l p but lb mm) (b : Nat) (hb2 : b < l.bunches.length) (hM : Memo l mm M) (hs : St w0 w (X ++ (M ++ F))) :
  Con Tryz.prog 58 [.pointer (some ⟨lb, 0, none⟩), .int .i64 (b : Int)] w fun v w' => v = .tuple #[.agg #[.int .i64 (spanW b (Ha.ways l but)).1, .int .i64 (spanW b (Ha.ways l but)).2], .int .i64 ((setW l b (Ha.ways l but) : Nat) : Int)] ∧ ∃ M', Memo l mm M' ∧ St w0 w' (X ++ (M' ++ F)) := by
  refine zDe (n := 35) func58 rfl rfl (Nat.le_of_ble_eq_true rfl) ?_
  have hbt := hk.bt
  have hlg := hk.ok.lg
  have hlb := hk.ok.lb
  have hlc := hk.ok.lc
  refine zAg (fun K2 hK1 => ?_)
  refine zAb (zB3 (v := .pointer _) (cs := [_]) zAa rfl rfl rfl hs (fun b3 w4 hs5 => ?_))
  refine zB3 (v := .int _ _) (cs := [_]) zAa rfl rfl rfl hs5 (fun b6 w7 hs8 => ?_)
  refine zA9 (cs := [_, _]) zAa zeroValue28 rfl hs8 (fun b9 w10 hs11 => ?_)
  refine zA9 (cs := [_]) zAa zeroValue3 rfl hs11 (fun b12 w13 hs14 => ?_)
  refine zAf (zAd (hK1 _ _ ?_))
  refine zAg (fun K16 hK15 => ?_)
  refine zAb (w_p (zBs (ps := [(0, _)]) (pv := [(0, .int _ _)]) rfl rfl (fun w => Try_HJ_fb2 _ w)) rfl ?_)
  refine zA5 (i := 1) (v := .agg #[.int _ _, .int _ _]) (vs := [_, _]) zAa sizeOf28 rfl rfl rfl rfl rfl (by simp [Value.oneCell']) hs14 rfl (Nat.le_of_ble_eq_true rfl) (fun w17 hs18 => ?_)
  refine zAf (zAd (hK15 _ _ ?_))
  refine zAg (fun K20 hK19 => ?_)
  refine zAg (fun K22 hK21 => ?_)
  refine zAb (w_p (zAk isAgg90 hs18 rfl rfl (zAj (i := 3) (vs := [_]) rfl rfl)) rfl ?_)
  refine zAt zAa call46 rfl rfl rfl rfl (c46 _ hs18) ?_
  rintro _ w24 ⟨bp, rfl, hs25⟩
  refine zAf (zAd (hK21 _ _ ?_))
  refine zAy ?_
  refine w_range (_ :: _ :: M) (fun i Bx => ∃ M, Bx = (b12, blk 3 [.int .i64 ((setW l b ((Ha.ways l but).take i) : Nat) : Int)]) :: (b9, blk 28 [.int .i64 (spanW b ((Ha.ways l but).take i)).1, .int .i64 (spanW b ((Ha.ways l but).take i)).2]) :: M ∧ Memo l mm M) (fun _ _ => False) rfl rfl rfl call80 (ways_iter l p but lb mm hk.app.cons.cons.cons bp (zAj (i := 0) (vs := [_]) rfl rfl)) hs25 (bounds_perm X M F) ⟨M, rfl, hM⟩ ?_ ?_ ?_
  ·
   intro lp i hi Bx Xr Xr2 w27 hJ hs K hK26
   obtain ⟨M, rfl, hM⟩ := hJ
   have hi2 : i < (Ha.ways l but).length := by simpa using hi
   rw [List.getElem_map, List.getElem_map]
   have hpl := padw_len hk.ok (List.mem_map.2 ⟨_, List.getElem_mem hi2, rfl⟩)
   have hat := pad6_at (Ha.ways l but)[i] b
   obtain ⟨h, hh⟩ : ∃ h, h = pad6 (Ha.ways l but)[i] := ⟨_, rfl⟩
   rw [← hh] at hpl hat ⊢
   have hh6 := hpl.1
   have hgd := getD_12 hpl.2 b
   have hsi := span_in hk.ok (but := but) b i
   have hsw := setW_lt hk.ok b ((Ha.ways l but).take i)
   have hgr := gradesB_in hk.ok hb2 (h.getD b 0)
   have hx3 : Ats w0 ((bp, blk 90 [.pointer (some ⟨lb, 0, none⟩)]) :: (b6, blk 3 [.int .i64 (b : Int)]) :: (b3, blk 90 [.pointer (some ⟨lb, 0, none⟩)]) :: (X ++ F)) b6 0 [.int .i64 (b : Int)] := zAj (i := 1) rfl rfl
   have hx2 : Ats w0 ((bp, blk 90 [.pointer (some ⟨lb, 0, none⟩)]) :: (b6, blk 3 [.int .i64 (b : Int)]) :: (b3, blk 90 [.pointer (some ⟨lb, 0, none⟩)]) :: (X ++ F)) b3 0 [.pointer (some ⟨lb, 0, none⟩)] := zAj (i := 2) rfl rfl
   replace hs := (show St _ _ (_ :: _ :: (M ++ (Xr ++ (_ :: _ :: _ :: (X ++ F))))) from hs)
   refine zAb (zA9 (cs := iv [0, 0, 0, 0, 0, 0]) zAa zeroValue99 rfl hs (fun b28 w29 hs30 => ?_))
   refine zCa (i := 0) (l := _) zAa sizeOf99 (by first | omega | rfl | (simp only [hh6, List.length_map, List.length_set, List.length_append, List.length_take, List.length_drop, List.length_replicate, List.length_cons, List.length_nil] <;> omega)) rfl rfl rfl rfl rfl hs30 rfl (by first | omega | rfl | (simp only [hh6, List.length_map, List.length_set, List.length_append, List.length_take, List.length_drop, List.length_replicate, List.length_cons, List.length_nil] <;> omega)) (fun w31 hs32 => ?_)
   refine zAf (zAd (hK26 _ _ (_ :: _ :: _ :: M) hs32 (fun w33 hs34 => ?_)))
   replace hs34 := (show St _ _ (_ :: _ :: _ :: M ++ (Xr2 ++ (_ :: _ :: _ :: X ++ (F)))) from hs34)
   refine zAy ?_
   refine zAg (fun K36 hK35 => ?_)
   refine zB7 [13] [(0, 0), (1, 1), (2, 1), (3, 0), (4, 1), (5, 0), (6, 0), (7, 1), (8, 1), (9, 0), (10, 1), (11, 0), (12, 0), (13, 3)] zBu (by kernel_rfl) hs34 (fun w37 hs38 => ?_)
   refine zAp rfl zAa rfl (fun _ => (zAh (o := 0) (i := 0) underlying28 rfl sizeOf3 rfl rfl rfl)) ?_
   refine zBa rfl zAa rfl hs38 (fun _ hq => (zAk isAgg3 hq rfl rfl (zAj (i := 2) (vs := [_]) rfl rfl))) ?_
   refine zBa rfl zAa rfl hs38 (fun _ hq => (zAk isAgg3 hq.tail.tail.tail.drop.drop rfl rfl hx3)) ?_
   refine zAp rfl zAa rfl (fun _ => (zB2 underlying99 sizeOf3 rfl rfl rfl rfl (i := b) (by first | rfl | omega) (by omega))) ?_
   refine zBa rfl zAa rfl hs38 (fun _ hq => (zAk isAgg3 hq rfl rfl (zCb (i := 0) (j := b) rfl (by first | omega | rfl | (simp only [hh6, List.length_map, List.length_set, List.length_append, List.length_take, List.length_drop, List.length_replicate, List.length_cons, List.length_nil] <;> omega))))) ?_
   refine zAp rfl zAa rfl (fun _ => (y_min2 rfl rfl rfl rfl)) ?_
   refine zAp rfl zAa rfl (fun _ => (zAh (o := 1) (i := 1) underlying28 rfl sizeOf3 rfl rfl rfl)) ?_
   refine zBa rfl zAa rfl hs38 (fun _ hq => (zAk isAgg3 hq rfl rfl (zAj (i := 2) (vs := [_]) rfl rfl))) ?_
   refine zBa rfl zAa rfl hs38 (fun _ hq => (zAk isAgg3 hq.tail.tail.tail.drop.drop rfl rfl hx3)) ?_
   refine zAp rfl zAa rfl (fun _ => (zB2 underlying99 sizeOf3 rfl rfl rfl rfl (i := b) (by first | rfl | omega) (by omega))) ?_
   refine zBa rfl zAa rfl hs38 (fun _ hq => (zAk isAgg3 hq rfl rfl (zCb (i := 0) (j := b) rfl (by first | omega | rfl | (simp only [hh6, List.length_map, List.length_set, List.length_append, List.length_take, List.length_drop, List.length_replicate, List.length_cons, List.length_nil] <;> omega))))) ?_
   refine zAp rfl zAa rfl (fun _ => (y_max2 rfl rfl rfl rfl)) ?_
   refine zAp rfl zAa rfl (fun _ => (zBs (ps := [(0, _), (1, _)]) (pv := [(0, .int _ _), (1, .int _ _)]) rfl rfl (fun w => Try_HJ_fb3 _ _ w))) ?_
   refine zC8 rfl ?_
   refine zA5 (i := 2) (v := .agg #[.int _ _, .int _ _]) (vs := [_, _]) zAa sizeOf28 rfl rfl rfl rfl rfl (by simp [Value.oneCell']) hs38 rfl (Nat.le_of_ble_eq_true rfl) (fun w39 hs40 => ?_)
   refine zAf (qn ?_)
   refine zB1 ?_
   refine zAd (hK35 _ _ ?_)
   refine w_drawC (C := fun w => ∃ M, Memo l mm M ∧ St w0 w ((b28, blk 99 (iv h)) :: (b12, blk 3 [.int .i64 ((setW l b ((Ha.ways l but).take i) : Nat) : Int)]) :: (b9, blk 28 [.int .i64 (min (spanW b ((Ha.ways l but).take i)).1 (h.getD b 0)), .int .i64 (max (spanW b ((Ha.ways l but).take i)).2 (h.getD b 0))]) :: (M ++ (Xr2 ++ ((bp, blk 90 [.pointer (some ⟨lb, 0, none⟩)]) :: (b6, blk 3 [.int .i64 (b : Int)]) :: (b3, blk 90 [.pointer (some ⟨lb, 0, none⟩)]) :: (X ++ F)))))) [9] [(0, 1), (1, 1), (2, 1), (3, 1), (4, 0), (5, 1), (6, 0), (7, 2), (8, 0), (9, 3)] zBu (by kernel_rfl) ⟨_, hM, hs40⟩ (fun _ ⟨M, h1, h2⟩ => ⟨M, h1, h2.drew⟩) (fun w41 ⟨M, hM, hs42⟩ => ?_)
   refine zCv rfl zAa rfl ⟨_, hM, hs42⟩ (fun _ ⟨M, hM, hq⟩ => (zAk isAgg3 hq rfl rfl (zAj (i := 1) (vs := [_]) rfl rfl))) ?_
   refine zCv rfl zAa rfl ⟨_, hM, hs42⟩ (fun _ ⟨M, hM, hq⟩ => (zAk isAgg90 hq.tail.tail.tail.drop.drop rfl rfl hx2)) ?_
   refine zCv rfl zAa rfl ⟨_, hM, hs42⟩ (fun _ ⟨M, hM, hq⟩ => (zAk isAgg3 hq.tail.tail.tail.drop.drop rfl rfl hx3)) ?_
   refine zCv rfl zAa rfl ⟨_, hM, hs42⟩ (fun _ ⟨M, hM, hq⟩ => (zAk isAgg3 hq.tail.tail.tail.drop.drop rfl rfl hx3)) ?_
   refine zAp rfl zAa rfl (fun _ => (zB2 underlying99 sizeOf3 rfl rfl rfl rfl (i := b) (by first | rfl | omega) (by omega))) ?_
   refine zCv rfl zAa rfl ⟨_, hM, hs42⟩ (fun _ ⟨M, hM, hq⟩ => (zAk isAgg3 hq rfl rfl (zCb (i := 0) (j := b) rfl (by first | omega | rfl | (simp only [hh6, List.length_map, List.length_set, List.length_append, List.length_take, List.length_drop, List.length_replicate, List.length_cons, List.length_nil] <;> omega))))) ?_
   refine zAp rfl zAa rfl (fun _ => (zBs (ps := [(0, _), (1, _)]) (pv := [(0, .int _ _), (1, .int _ _)]) rfl rfl (fun w => Try_HJ_fb4 _ _ w))) ?_
   refine zCl rfl ?_
   refine zAt zAa call47 rfl rfl rfl rfl (grades_con (X := _ :: _ :: _ :: []) (F := Xr2 ++ ((bp, blk 90 [.pointer (some ⟨lb, 0, none⟩)]) :: (b6, blk 3 [.int .i64 (b : Int)]) :: (b3, blk 90 [.pointer (some ⟨lb, 0, none⟩)]) :: (X ++ F))) l p but lb mm hk.app.cons.cons.cons.app b hb2 (h.getD b 0) hM hs42) ?_
   rintro _ w44 ⟨rfl, M2, hM2, hs45⟩
   replace hs45 := (show St _ _ (_ :: _ :: _ :: M2 ++ (Xr2 ++ (_ :: _ :: _ :: X ++ (F)))) from hs45)
   refine zAf (qn ⟨⟨_, hM2, hs45⟩, ?_⟩)
   refine zAp rfl zAa rfl (fun _ => (y_or (x := setW l b ((Ha.ways l but).take i)) (y := gradesB l (bunchOf l b) (h.getD b 0)) rfl rfl rfl rfl (by first | rfl | omega) (by first | rfl | omega) (by first | omega | exact zB8 (by omega)) (by first | omega | exact zB8 (by omega)))) ?_
   refine zC8 rfl ?_
   refine zA5 (i := 1) (v := .int _ _) (vs := [_]) zAa sizeOf3 rfl rfl rfl rfl rfl (by simp [Value.oneCell']) hs45 rfl (Nat.le_of_ble_eq_true rfl) (fun w46 hs47 => ?_)
   refine zAf (qn ?_)
   refine zB1 ?_
   refine zAl (zCr (_ :: _ :: M2) hs47.tail ?_)
   exact ⟨M2, bounds_cells (by rw [setW_take hi2, hat]) (by rw [span_take hi2, hat]) (by rw [span_take hi2, hat]), hM2⟩
  ·
   intro bd Bx w48 hJ hs
   obtain ⟨M, rfl, hM⟩ := hJ
   rw [List.length_map, List.length_map, List.take_length] at hs
   replace hs := (show St _ _ (_ :: _ :: _ :: (M ++ (_ :: _ :: _ :: (X ++ F)))) from hs)
   refine zAl (zAd (hK19 _ _ ?_))
   refine zAg (fun K50 hK49 => ?_)
   refine zB7 [3] [(0, 1), (1, 1), (2, 2), (3, 3)] zBu (by kernel_rfl) hs (fun w51 hs52 => ?_)
   refine zBa rfl zAa rfl hs52 (fun _ hq => (zA6 (vs := [_, _]) isAgg28 sizeOf28 hq rfl rfl (zAj (i := 2) (vs := [_, _]) rfl rfl))) ?_
   refine zBa rfl zAa rfl hs52 (fun _ hq => (zAk isAgg3 hq rfl rfl (zAj (i := 1) (vs := [_]) rfl rfl))) ?_
   refine zCl rfl ?_
   refine zA5 (i := 2) (v := .agg #[.int _ _, .int _ _]) (vs := [_, _]) zAa sizeOf28 rfl rfl rfl rfl rfl (by simp [Value.oneCell']) hs52 rfl (Nat.le_of_ble_eq_true rfl) (fun w53 hs54 => ?_)
   refine zAf (qn ⟨hs54, ?_⟩)
   refine zC8 rfl ?_
   refine zA5 (i := 1) (v := .int _ _) (vs := [_]) zAa sizeOf3 rfl rfl rfl rfl rfl (by simp [Value.oneCell']) hs54 rfl (Nat.le_of_ble_eq_true rfl) (fun w55 hs56 => ?_)
   refine zAf (qn ?_)
   refine zB1 ?_
   refine zAd (hK49 _ _ ?_)
   refine zA2 (q_retM (i := 0) (l := [.cell 4 28, .cell 5 3]) (vs := [_, _]) hs56 rfl rfl (fun w57 hs58 => ⟨⟨⟨rfl, _, rfl, zBx (vs := [_, _]) isAgg28 sizeOf28 hs58 (zAj (i := 2) (vs := [_, _]) rfl rfl)⟩, ⟨rfl, _, rfl, zBo isAgg3 hs58 (zAj (i := 1) (vs := [_]) rfl rfl)⟩, trivial⟩, ?_⟩))
   exact ⟨rfl, M, hM, bounds_back hs58.tail.tail.tail⟩
  intro _ _ _ _ hJ
  exact hJ.elim

end Go.Proofs.Hn
set_option maxRecDepth 20000
namespace Go.Proofs.Hn
open Go.Proofs.Tryz
open Go.Rt Go.Rt.Ha
attribute [local irreducible] WL WC Con Yd At Ats Sl Agree DW
theorem Try_HK_fb2 (x0 : Int) (w : World) : (Instr.buildSlice 43 1 [(0, .int .i64 x0)].toArray).run Tryz.prog w = .ok (.slice (some ⟨w.heap.size, 0, none⟩) 1 1) (w.alloc (Go.Rt.blk 3 [.int .i64 x0])) := by kernel_rfl
theorem enterE_1 {l : Lot} {e : Int} (h : (check l).2.2 ≠ 0) : enterE l e = (check l).2.2 := by unfold enterE; rw [if_pos h]
theorem enterE_2 {l : Lot} {e : Int} (h : (check l).2.2 = 0) (he : e ≠ 0) : enterE l e = e := by unfold enterE; rw [if_neg (by simp [h]), if_pos he]
theorem enterE_3 {l : Lot} {e : Int} (h : (check l).2.2 = 0) (he : e = 0) (hw : Ha.ways l 0 = []) : enterE l e = 8 := by unfold enterE; rw [if_neg (by simp [h]), if_neg (by simp [he]), if_pos hw]
theorem enterE_0 {l : Lot} {e : Int} (h : (check l).2.2 = 0) (he : e = 0) (hw : Ha.ways l 0 ≠ []) : enterE l e = 0 := by unfold enterE; rw [if_neg (by simp [h]), if_neg (by simp [he]), if_neg hw]
theorem lk_new {w0 w : World} {M L : List (Nat × Obj)} {l : Lot} {p : At3} {lb mm : Nat} (hs : St w0 w (M ++ ((lb, blk 141 [.slice p.ag l.grades.length p.cg, .slice p.ab l.bunches.length p.cb, .slice p.ac l.counts.length p.cc, .int .i64 ((0 : Nat) : Int), .map (some mm)]) :: L))) (hm : LIn w0 L l p) (hc : (check l).2.2 = 0) : LK w0 ((lb, blk 141 [.slice p.ag l.grades.length p.cg, .slice p.ab l.bunches.length p.cb, .slice p.ac l.counts.length p.cc, .int .i64 ((0 : Nat) : Int), .map (some mm)]) :: L) l p 0 lb mm :=
  ⟨hm.cons, zAj (i := 0) rfl rfl, check_ok hc, by omega⟩
theorem lk_but {w0 w : World} {L : List (Nat × Obj)} {l : Lot} {p : At3} {but lb mm : Nat} (hs : St w0 w ((lb, blk 141 [.slice p.ag l.grades.length p.cg, .slice p.ab l.bunches.length p.cb, .slice p.ac l.counts.length p.cc, .int .i64 (but : Int), .map (some mm)]) :: L)) (hm : LIn w0 L l p) (hc : (check l).2.2 = 0) (hb : but < 1000) : LK w0 ((lb, blk 141 [.slice p.ag l.grades.length p.cg, .slice p.ab l.bunches.length p.cb, .slice p.ac l.counts.length p.cc, .int .i64 (but : Int), .map (some mm)]) :: L) l p but lb mm :=
  ⟨hm.cons, zAj (i := 0) rfl rfl, check_ok hc, hb⟩
theorem isE {l : List (List Int)} (h : l.isEmpty = true) : l = [] := by cases l with | nil => rfl | cons _ _ => simp at h
theorem isE1 {l : List (List Int)} (h : l.isEmpty = false) : l ≠ [] := by rintro rfl; simp at h
theorem swap2 {w0 w : World} {F : List (Nat × Obj)} {a b c : Nat × Obj} (h : St w0 w (a :: b :: c :: F)) : St w0 w ([b] ++ (a :: F)) := ((h.perm (zBe [a, b] [c] F)).tail).perm (List.Perm.swap _ _ _)
theorem c79 {w0 w : World} {F : List (Nat × Obj)} (n : Int) (below : Nat) (bb bn : Nat) (hbl : below ≤ 9223372036854775807) (h1 : Ats w0 F bb 0 [.int .i64 (below : Int)]) (h2 : Ats w0 F bn 0 [.int .i64 n]) (hs : St w0 w F) :
  Con Tryz.prog 79 [.pointer (some ⟨bb, 0, none⟩), .pointer (some ⟨bn, 0, none⟩)] w fun v w' => v = .int .i64 (idxE n below) ∧ St w0 w' F := by
  refine zAw (n := 8) func79 rfl rfl (Nat.le_of_ble_eq_true rfl) ?_
  refine zAg (fun K2 hK1 => ?_)
  refine zAb (w_p (zAc (v := _) rfl rfl) rfl ?_)
  refine zAf (zAd (hK1 _ _ ?_))
  refine zAg (fun K4 hK3 => ?_)
  refine zAg (fun K6 hK5 => ?_)
  refine zAb (w_p (zAk isAgg3 hs rfl rfl h1) rfl ?_)
  refine w_p (y_sub rfl rfl rfl rfl (by omega) (by omega)) rfl ?_
  refine w_p (zAk isAgg3 hs rfl rfl h2) rfl ?_
  refine zBh (ps := [(0, _)]) (pv := [(0, .int _ _)]) (cs := [_]) zAa rfl rfl (fun w => Try_HK_fb2 _ w) hs (fun b7 w8 hs9 => ?_)
  refine zAt zAa call62 rfl rfl rfl rfl (c62 _ _ _ [_] _ (by simp) (zBr (i := 0) (rows := [[_]]) rfl (by simp) rfl) hs9) ?_
  rintro _ w11 ⟨rfl, hs12⟩
  refine zAf (zAd (hK5 _ _ ?_))
  refine zAz rfl rfl (fun h13 => ?_) (fun h13 => ?_)
  ·
   try simp only [zS] at h13
   refine zAg (fun K15 hK14 => ?_)
   refine zAb (w_p (zAc (v := _) rfl rfl) rfl ?_)
   refine zAf (zAd (hK14 _ _ ?_))
   refine zA2 (zAm (zA3 (l := [.tmp 2]) (vs := [_]) rfl ⟨⟨rfl, (rfl : _ = Value.int _ _)⟩, trivial⟩ ?_))
   try simp only [List.any_cons, List.any_nil, Bool.or_false, Bool.or_eq_false_iff] at h13
   exact ⟨congrArg (Value.int .i64) (by unfold idxE; simp [h13]), hs12.tail⟩
  try simp only [zS] at h13
  refine zAx (zAd (hK3 _ _ ?_))
  refine zAg (fun K17 hK16 => ?_)
  refine zAb (w_p (zAc (v := _) rfl rfl) rfl ?_)
  refine zAf (zAd (hK16 _ _ ?_))
  refine zA2 (zA3 (l := [.tmp 2]) (vs := [_]) rfl ⟨⟨rfl, (rfl : _ = Value.int _ _)⟩, trivial⟩ ?_)
  try simp only [List.any_cons, List.any_nil, Bool.or_false, Bool.or_eq_false_iff] at h13
  exact ⟨congrArg (Value.int .i64) (by unfold idxE; simp [h13]), hs12.tail⟩

theorem c45 {w0 w : World} {F : List (Nat × Obj)} (n : Int) (below : Int) (hs : St w0 w F) :
  Con Tryz.prog 45 [.int .i64 n, .int .i64 below] w fun v w' => ∃ bb bn, v = .func (.func 79) #[] #[.pointer (some ⟨bb, 0, none⟩), .pointer (some ⟨bn, 0, none⟩)] ∧ St w0 w' ((bb, blk 3 [.int .i64 below]) :: (bn, blk 3 [.int .i64 n]) :: F) := by
  refine zAw (n := 6) func45 rfl rfl (Nat.le_of_ble_eq_true rfl) ?_
  refine zAg (fun K2 hK1 => ?_)
  refine zAb (zB3 (v := .int _ _) (cs := [_]) zAa rfl rfl rfl hs (fun b3 w4 hs5 => ?_))
  refine zB3 (v := .int _ _) (cs := [_]) zAa rfl rfl rfl hs5 (fun b6 w7 hs8 => ?_)
  refine w_p (zAc (v := _) rfl rfl) rfl ?_
  refine zAf (zAd (hK1 _ _ ?_))
  refine zAg (fun K10 hK9 => ?_)
  refine zAb (w_p (zB9 (fv := []) (cv := [_, _]) rfl rfl rfl rfl) rfl ?_)
  refine w_p (zAc (v := .func _ _ _) rfl rfl) rfl ?_
  refine zAf (zAd (hK9 _ _ ?_))
  refine zA2 (zA3 (l := [.tmp 4]) (vs := [_]) rfl ⟨⟨rfl, show _ = (.func _ _ _ : Value) from rfl⟩, trivial⟩ ?_)
  exact ⟨_, _, rfl, hs8⟩

theorem c60 {w0 w : World} {F : List (Nat × Obj)}  (hs : St w0 w F) :
  Con Tryz.prog 60 [] w fun v w' => v = .int .i64 0 ∧ St w0 w' F := by
  refine zAw (n := 1) func60 rfl rfl (Nat.le_of_ble_eq_true rfl) ?_
  refine zAg (fun K2 hK1 => ?_)
  refine zAb (w_p (zAc (v := _) rfl rfl) rfl ?_)
  refine zAf (zAd (hK1 _ _ ?_))
  refine zAg (fun K4 hK3 => ?_)
  refine zAb (w_p (zAc (v := _) rfl rfl) rfl ?_)
  refine zAf (zAd (hK3 _ _ ?_))
  refine zA2 (zA3 (l := [.tmp 0]) (vs := [_]) rfl ⟨⟨rfl, (rfl : _ = Value.int _ _)⟩, trivial⟩ ?_)
  exact ⟨rfl, hs⟩

theorem c44 {w0 w : World} {F : List (Nat × Obj)} (l : Lot) (p : At3) (hm : LIn w0 F l p) (fv : Value) (e : Int) (hE : ∀ (X : List (Nat × Obj)) (w : World), St w0 w (X ++ F) → FCon Tryz.prog fv [] w fun v w' => v = .int .i64 e ∧ St w0 w' (X ++ F)) (hs : St w0 w F) :
  Con Tryz.prog 44 [.agg (l.cells p).toArray, fv] w fun v w' => (enterE l e ≠ 0 ∧ v = .tuple #[.pointer none, .int .i64 (enterE l e)] ∧ St w0 w' F) ∨ (enterE l e = 0 ∧ ∃ lb mm M, v = .tuple #[.pointer (some ⟨lb, 0, none⟩), .int .i64 0] ∧ Memo l mm M ∧ St w0 w' (M ++ ((lb, blk 141 [.slice p.ag l.grades.length p.cg, .slice p.ab l.bunches.length p.cb, .slice p.ac l.counts.length p.cc, .int .i64 ((0 : Nat) : Int), .map (some mm)]) :: F))) := by
  refine zAw (n := 31) func44 rfl rfl (Nat.le_of_ble_eq_true rfl) ?_
  refine zAg (fun K2 hK1 => ?_)
  refine zAb (zB3 (v := .agg #[.slice _ _ _, .slice _ _ _, .slice _ _ _]) (cs := [_, _, _]) zAa rfl rfl rfl hs (fun b3 w4 hs5 => ?_))
  refine w_p (zAc (v := _) rfl rfl) rfl ?_
  refine w_p (zAc (v := _) rfl rfl) rfl ?_
  refine zAf (zAd (hK1 _ _ ?_))
  refine zAg (fun K7 hK6 => ?_)
  refine zAg (fun K9 hK8 => ?_)
  refine zAb (w_p (zA6 (vs := [_, _, _]) isAgg26 sizeOf26 hs5 rfl rfl (zAj (i := 0) (vs := [_, _, _]) rfl rfl)) rfl ?_)
  refine zAt zAa call66 rfl rfl rfl rfl (c66 l _ hm.cons hs5) ?_
  rintro _ w11 ⟨rfl, hs12⟩
  refine w_p (zAe (v := .tuple _) rfl rfl) rfl ?_
  refine w_p (zAq (v := .int _ _) rfl rfl rfl) rfl ?_
  refine w_p (zAq (v := .int _ _) rfl rfl rfl) rfl ?_
  refine w_p (zAq (v := .int _ _) rfl rfl rfl) rfl ?_
  refine w_p (zAc (v := .int _ _) rfl rfl) rfl ?_
  refine w_p (zAc (v := .int _ _) rfl rfl) rfl ?_
  refine w_p (zAc (v := .int _ _) rfl rfl) rfl ?_
  refine zAf (zAd (hK8 _ _ ?_))
  refine zAg (fun K14 hK13 => ?_)
  refine zAb (w_p (zAe (v := .int _ _) rfl rfl) rfl ?_)
  refine w_p (zCc rfl rfl rfl rfl) rfl ?_
  refine zAf (zAd (hK13 _ _ ?_))
  refine zAz rfl rfl (fun h15 => ?_) (fun h15 => ?_)
  ·
   try simp only [zS] at h15
   refine zAg (fun K17 hK16 => ?_)
   refine zAb (w_p (zAe (v := .int _ _) rfl rfl) rfl ?_)
   refine w_p (zAc (v := _) rfl rfl) rfl ?_
   refine w_p (zAc (v := .int _ _) rfl rfl) rfl ?_
   refine zAf (zAd (hK16 _ _ ?_))
   refine zA2 (zAm (zA3 (l := [.tmp 4, .tmp 5]) (vs := [_, _]) rfl ⟨⟨rfl, show _ = (.pointer _ : Value) from rfl⟩, ⟨rfl, (rfl : _ = Value.int _ _)⟩, trivial⟩ ?_))
   first
     | exact .inl ⟨by rw [enterE_1 (by assumption)]; assumption, by rw [enterE_1 (by assumption)]; rfl, hs12.tail⟩
     | exact .inl ⟨by rw [enterE_2 (by assumption) (by assumption)]; assumption, by rw [enterE_2 (by assumption) (by assumption)]; rfl, hs12.tail⟩
     | exact .inl ⟨by rw [enterE_3 (by assumption) (by assumption) (isE (by assumption))]; decide, by rw [enterE_3 (by assumption) (by assumption) (isE (by assumption))]; rfl, hs12.tail⟩
     | exact .inr ⟨enterE_0 (by assumption) (by assumption) (isE1 (by assumption)), lb, mm, _, rfl, memo_new l mm, swap2 hs12⟩
  try simp only [zS] at h15
  refine zAx (zAd (hK6 _ _ ?_))
  refine zAg (fun K19 hK18 => ?_)
  refine zAg (fun K21 hK20 => ?_)
  refine zAb (w_p (zAe (v := fv) rfl rfl) rfl ?_)
  refine w_callV zAa rfl rfl rfl rfl (hE [_] _ hs12) ?_
  rintro _ w23 ⟨rfl, hs24⟩
  refine w_p (zAc (v := .int _ _) rfl rfl) rfl ?_
  refine zAf (zAd (hK20 _ _ ?_))
  refine zAg (fun K26 hK25 => ?_)
  refine zAb (w_p (zAe (v := .int _ _) rfl rfl) rfl ?_)
  refine w_p (zCc rfl rfl rfl rfl) rfl ?_
  refine zAf (zAd (hK25 _ _ ?_))
  refine zAz rfl rfl (fun h27 => ?_) (fun h27 => ?_)
  ·
   try simp only [zS] at h27
   refine zAg (fun K29 hK28 => ?_)
   refine zAb (w_p (zAe (v := .int _ _) rfl rfl) rfl ?_)
   refine w_p (zAc (v := _) rfl rfl) rfl ?_
   refine w_p (zAc (v := .int _ _) rfl rfl) rfl ?_
   refine zAf (zAd (hK28 _ _ ?_))
   refine zA2 (zAm (zA3 (l := [.tmp 4, .tmp 5]) (vs := [_, _]) rfl ⟨⟨rfl, show _ = (.pointer _ : Value) from rfl⟩, ⟨rfl, (rfl : _ = Value.int _ _)⟩, trivial⟩ ?_))
   first
     | exact .inl ⟨by rw [enterE_1 (by assumption)]; assumption, by rw [enterE_1 (by assumption)]; rfl, hs24.tail⟩
     | exact .inl ⟨by rw [enterE_2 (by assumption) (by assumption)]; assumption, by rw [enterE_2 (by assumption) (by assumption)]; rfl, hs24.tail⟩
     | exact .inl ⟨by rw [enterE_3 (by assumption) (by assumption) (isE (by assumption))]; decide, by rw [enterE_3 (by assumption) (by assumption) (isE (by assumption))]; rfl, hs24.tail⟩
     | exact .inr ⟨enterE_0 (by assumption) (by assumption) (isE1 (by assumption)), lb, mm, _, rfl, memo_new l mm, swap2 hs24⟩
  try simp only [zS] at h27
  refine zAx (zAd (hK18 _ _ ?_))
  refine zAg (fun K31 hK30 => ?_)
  refine zAb (w_p (zA6 (vs := [_, _, _]) isAgg26 sizeOf26 hs24 rfl rfl (zAj (i := 0) (vs := [_, _, _]) rfl rfl)) rfl ?_)
  refine zAt zAa call68 rfl rfl rfl rfl (c68 l p 0 hs24) ?_
  rintro _ w33 ⟨lb, mm, rfl, hs34⟩
  replace hs34 := (show St _ _ (_ :: _ :: _ :: F) from hs34)
  have hk := lk_but (but := 0) hs34 hm.cons.cons (by assumption) (by omega)
  refine w_p (zAc (v := .pointer _) rfl rfl) rfl ?_
  refine zAf (zAd (hK30 _ _ ?_))
  refine zAg (fun K36 hK35 => ?_)
  refine zAg (fun K38 hK37 => ?_)
  refine zAb (w_p (zAe (v := .pointer _) rfl rfl) rfl ?_)
  refine zAt zAa call69 rfl rfl rfl rfl (c69 l p 0 lb mm hk hs34) ?_
  rintro _ w40 ⟨rfl, hs41⟩
  refine w_p (zDc rfl rfl) rfl ?_
  refine zAf (zAd (hK37 _ _ ?_))
  refine zAz rfl rfl (fun h42 => ?_) (fun h42 => ?_)
  ·
   try simp only [zS] at h42
   refine zAg (fun K44 hK43 => ?_)
   refine zAb (w_p (zAc (v := _) rfl rfl) rfl ?_)
   refine w_p (zAc (v := _) rfl rfl) rfl ?_
   refine zAf (zAd (hK43 _ _ ?_))
   refine zA2 (zAm (zA3 (l := [.tmp 4, .tmp 5]) (vs := [_, _]) rfl ⟨⟨rfl, show _ = (.pointer _ : Value) from rfl⟩, ⟨rfl, (rfl : _ = Value.int _ _)⟩, trivial⟩ ?_))
   first
     | exact .inl ⟨by rw [enterE_1 (by assumption)]; assumption, by rw [enterE_1 (by assumption)]; rfl, hs41.tail.tail.tail⟩
     | exact .inl ⟨by rw [enterE_2 (by assumption) (by assumption)]; assumption, by rw [enterE_2 (by assumption) (by assumption)]; rfl, hs41.tail.tail.tail⟩
     | exact .inl ⟨by rw [enterE_3 (by assumption) (by assumption) (isE (by assumption))]; decide, by rw [enterE_3 (by assumption) (by assumption) (isE (by assumption))]; rfl, hs41.tail.tail.tail⟩
     | exact .inr ⟨enterE_0 (by assumption) (by assumption) (isE1 (by assumption)), lb, mm, _, rfl, memo_new l mm, swap2 hs41⟩
  try simp only [zS] at h42
  refine zAx (zAd (hK35 _ _ ?_))
  refine zAg (fun K46 hK45 => ?_)
  refine zAb (w_p (zAe (v := .pointer _) rfl rfl) rfl ?_)
  refine w_p (zAc (v := .pointer _) rfl rfl) rfl ?_
  refine w_p (zAc (v := _) rfl rfl) rfl ?_
  refine zAf (zAd (hK45 _ _ ?_))
  refine zA2 (zA3 (l := [.tmp 4, .tmp 5]) (vs := [_, _]) rfl ⟨⟨rfl, show _ = (.pointer _ : Value) from rfl⟩, ⟨rfl, (rfl : _ = Value.int _ _)⟩, trivial⟩ ?_)
  first
    | exact .inl ⟨by rw [enterE_1 (by assumption)]; assumption, by rw [enterE_1 (by assumption)]; rfl, hs41.tail.tail.tail⟩
    | exact .inl ⟨by rw [enterE_2 (by assumption) (by assumption)]; assumption, by rw [enterE_2 (by assumption) (by assumption)]; rfl, hs41.tail.tail.tail⟩
    | exact .inl ⟨by rw [enterE_3 (by assumption) (by assumption) (isE (by assumption))]; decide, by rw [enterE_3 (by assumption) (by assumption) (isE (by assumption))]; rfl, hs41.tail.tail.tail⟩
    | exact .inr ⟨enterE_0 (by assumption) (by assumption) (isE1 (by assumption)), lb, mm, _, rfl, memo_new l mm, swap2 hs41⟩

theorem bounds_at {w0 w : World} {X M F : List (Nat × Obj)} (l : Lot) (p : At3) (but lb mm : Nat) (hk : LK w0 F l p but lb mm) (b : Int) (hb : 0 ≤ b ∧ b < l.bunches.length) (hM : Memo l mm M) (hs : St w0 w (X ++ (M ++ F))) :
    Con Tryz.prog 58 [.pointer (some ⟨lb, 0, none⟩), .int .i64 b] w fun v w' => v = .tuple #[.agg #[.int .i64 (spanW b.toNat (Ha.ways l but)).1, .int .i64 (spanW b.toNat (Ha.ways l but)).2], .int .i64 ((setW l b.toNat (Ha.ways l but) : Nat) : Int)] ∧ ∃ M', Memo l mm M' ∧ St w0 w' (X ++ (M' ++ F)) := by
  have h := c58 l p but lb mm hk b.toNat (by omega) hM hs
  rw [Int.toNat_of_nonneg hb.1] at h
  exact h
theorem c24 {w0 w : World} {F : List (Nat × Obj)} (l : Lot) (p : At3) (hm : LIn w0 F l p) (b : Int) (hs : St w0 w F) :
  Con Tryz.prog 24 [.agg (l.cells p).toArray, .int .i64 b] w fun v w' => v = .tuple #[.agg #[.int .i64 (handsP l b).1.1, .int .i64 (handsP l b).1.2], .int .i64 (handsP l b).2] ∧ St w0 w' F := by
  refine zAw (n := 28) func24 rfl rfl (Nat.le_of_ble_eq_true rfl) ?_
  have hlb0 := hm.lb
  refine zAg (fun K2 hK1 => ?_)
  refine zAb (zB3 (v := .agg #[.slice _ _ _, .slice _ _ _, .slice _ _ _]) (cs := [_, _, _]) zAa rfl rfl rfl hs (fun b3 w4 hs5 => ?_))
  refine zA9 (cs := [_, _]) zAa zeroValue28 rfl hs5 (fun b6 w7 hs8 => ?_)
  refine w_p (zAc (v := _) rfl rfl) rfl ?_
  refine zAf (zAd (hK1 _ _ ?_))
  refine zAg (fun K10 hK9 => ?_)
  refine zB7 [] [(0, 1), (1, 0), (2, 0), (3, 1), (4, 0), (5, 2), (6, 2), (7, 0), (8, 0), (9, 0), (10, 0), (11, 0)] zBu (by kernel_rfl) hs8 (fun w11 hs12 => ?_)
  refine zBa rfl zAa rfl hs12 (fun _ hq => (zA6 (vs := [_, _, _]) isAgg26 sizeOf26 hq rfl rfl (zAj (i := 1) (vs := [_, _, _]) rfl rfl))) ?_
  refine zAp rfl zAa rfl (fun _ => (zAe (v := .int _ _) rfl rfl)) ?_
  refine zAp rfl zAa rfl (fun _ => (zAh (o := 1) (i := 1) underlying26 rfl sizeOf23 rfl rfl rfl)) ?_
  refine zBa rfl zAa rfl hs12 (fun _ hq => (zAk isAgg23 hq rfl rfl (zAj (i := 1) (vs := [_]) rfl rfl))) ?_
  refine zAp rfl zAa rfl (fun _ => (zBd underlying23 rfl rfl)) ?_
  refine zCl rfl ?_
  refine zAt zAa call45 rfl rfl rfl rfl (c45 _ _ hs12) ?_
  rintro _ w14 ⟨bb, bn, rfl, hs15⟩
  refine zAf (qn ⟨hs15.tail.tail, ?_⟩)
  refine zCl rfl ?_
  refine zAt zAa call44 rfl rfl rfl rfl (c44 l p hm.cons.cons.cons.cons (.func (.func 79) #[] #[.pointer (some ⟨bb, 0, none⟩), .pointer (some ⟨bn, 0, none⟩)]) (idxE b l.bunches.length) (fun X w hs => zC4 call79 (c79 b l.bunches.length _ _ (by omega) (Ats.app (zAj (i := 0) (vs := [_]) rfl rfl)) (Ats.app (zAj (i := 1) (vs := [_]) rfl rfl)) hs)) hs15) ?_
  rintro _ w17 (⟨hee, rfl, hs18⟩ | ⟨hee, lb, mm, M, rfl, hM, hs18⟩)
  ·
   refine zAf (qn ⟨hs18.tail.tail, ?_⟩)
   refine zAp rfl zAa rfl (fun _ => (zAe (v := .tuple _) rfl rfl)) ?_
   refine zAp rfl zAa rfl (fun _ => (zAq (v := .pointer _) rfl rfl rfl)) ?_
   refine zAp rfl zAa rfl (fun _ => (zAq (v := .int _ _) rfl rfl rfl)) ?_
   refine zAp rfl zAa rfl (fun _ => (zAc (v := .pointer _) rfl rfl)) ?_
   refine zAp rfl zAa rfl (fun _ => (zAc (v := .int _ _) rfl rfl)) ?_
   refine zB1 ?_
   refine zAd (hK9 _ _ ?_)
   refine zAg (fun K20 hK19 => ?_)
   refine zAg (fun K22 hK21 => ?_)
   refine zAb (w_p (zAe (v := .int _ _) rfl rfl) rfl ?_)
   refine w_p (zCc rfl rfl rfl rfl) rfl ?_
   refine zAf (zAd (hK21 _ _ ?_))
   refine zAz rfl rfl (fun h23 => ?_) (fun h23 => ?_)
   ·
    try simp only [zS] at h23
    refine zAg (fun K25 hK24 => ?_)
    refine zAb (w_p (zA6 (vs := [_, _]) isAgg28 sizeOf28 hs18 rfl rfl (zAj (i := 2) (vs := [_, _]) rfl rfl)) rfl ?_)
    refine w_p (zAe (v := .int _ _) rfl rfl) rfl ?_
    refine zA5 (i := 2) (v := .agg #[.int _ _, .int _ _]) (vs := [_, _]) zAa sizeOf28 rfl rfl rfl rfl rfl (by simp [Value.oneCell']) hs18 rfl (Nat.le_of_ble_eq_true rfl) (fun w26 hs27 => ?_)
    refine w_p (zAc (v := .int _ _) rfl rfl) rfl ?_
    refine zAf (zAd (hK24 _ _ ?_))
    refine zA2 (zAm (zA3 (l := [.cell 4 28, .tmp 5]) (vs := [_, _]) rfl ⟨⟨rfl, _, rfl, zBx (vs := [_, _]) isAgg28 sizeOf28 hs27 (zAj (i := 2) (vs := [_, _]) rfl rfl)⟩, ⟨rfl, (rfl : _ = Value.int _ _)⟩, trivial⟩ ?_))
    exact ⟨by unfold handsP; rw [if_pos hee]; rfl, hs27.tail.tail.tail.tail⟩
   exfalso
   try simp only [zS] at h23
   first | exact hee h23 | exact h23 hee
  replace hs18 := (show St _ _ (M ++ (_ :: _ :: _ :: _ :: _ :: F)) from hs18)
  have hk := lk_new hs18 hm.cons.cons.cons.cons (zBz hee).1
  have hew := zBz hee
  have hbt := hk.bt
  have hlg := hk.ok.lg
  have hlb := hk.ok.lb
  have hlc := hk.ok.lc
  refine zAf (qn ⟨hs18.drop.tail.tail.tail, ?_⟩)
  refine zAp rfl zAa rfl (fun _ => (zAe (v := .tuple _) rfl rfl)) ?_
  refine zAp rfl zAa rfl (fun _ => (zAq (v := .pointer _) rfl rfl rfl)) ?_
  refine zAp rfl zAa rfl (fun _ => (zAq (v := .int _ _) rfl rfl rfl)) ?_
  refine zAp rfl zAa rfl (fun _ => (zAc (v := .pointer _) rfl rfl)) ?_
  refine zAp rfl zAa rfl (fun _ => (zAc (v := .int _ _) rfl rfl)) ?_
  refine zB1 ?_
  refine zAd (hK9 _ _ ?_)
  refine zAg (fun K29 hK28 => ?_)
  refine zAg (fun K31 hK30 => ?_)
  refine zAb (w_p (zAe (v := .int _ _) rfl rfl) rfl ?_)
  refine w_p (zCc rfl rfl rfl rfl) rfl ?_
  refine zAf (zAd (hK30 _ _ ?_))
  refine zB0 rfl rfl ?_
  refine zAx (zAd (hK28 _ _ ?_))
  refine zAg (fun K33 hK32 => ?_)
  refine zAb (w_p (zAe (v := .pointer _) rfl rfl) rfl ?_)
  refine w_p (zAe (v := .int _ _) rfl rfl) rfl ?_
  refine zAt zAa call58 rfl rfl rfl rfl (bounds_at (X := []) l _ 0 lb mm hk b (idxE_zero hew.2.1) hM hs18) ?_
  rintro _ w35 ⟨rfl, M37, hM37, hs36⟩
  replace hs36 := (show St _ _ (M37 ++ (_ :: _ :: _ :: _ :: _ :: F)) from hs36)
  have hs38 := hs36.drop
  refine w_p (zAe (v := .tuple _) rfl rfl) rfl ?_
  refine w_p (zAq (v := .agg _) rfl rfl rfl) rfl ?_
  refine w_p (zAq (v := .int _ _) rfl rfl rfl) rfl ?_
  refine zA5 (i := 3) (v := .agg #[.int _ _, .int _ _]) (vs := [_, _]) zAa sizeOf28 rfl rfl rfl rfl rfl (by simp [Value.oneCell']) hs38 rfl (Nat.le_of_ble_eq_true rfl) (fun w39 hs40 => ?_)
  refine zAf (zAd (hK32 _ _ ?_))
  refine zAg (fun K42 hK41 => ?_)
  refine zAb (w_p (zA6 (vs := [_, _]) isAgg28 sizeOf28 hs40 rfl rfl (zAj (i := 3) (vs := [_, _]) rfl rfl)) rfl ?_)
  refine zA5 (i := 3) (v := .agg #[.int _ _, .int _ _]) (vs := [_, _]) zAa sizeOf28 rfl rfl rfl rfl rfl (by simp [Value.oneCell']) hs40 rfl (Nat.le_of_ble_eq_true rfl) (fun w43 hs44 => ?_)
  refine w_p (zAc (v := _) rfl rfl) rfl ?_
  refine zAf (zAd (hK41 _ _ ?_))
  refine zA2 (zA3 (l := [.cell 4 28, .tmp 5]) (vs := [_, _]) rfl ⟨⟨rfl, _, rfl, zBx (vs := [_, _]) isAgg28 sizeOf28 hs44 (zAj (i := 3) (vs := [_, _]) rfl rfl)⟩, ⟨rfl, (rfl : _ = Value.int _ _)⟩, trivial⟩ ?_)
  exact ⟨by unfold handsP; rw [if_neg (by simp [hee])]; rfl, hs44.tail.tail.tail.tail.tail⟩

end Go.Proofs.Hn
set_option maxRecDepth 20000
namespace Go.Proofs.Hn
open Go.Proofs.Tryz
open Go.Rt Go.Rt.Ha
attribute [local irreducible] WL WC Con Yd At Ats Sl Agree DW
theorem Try_HL_fb2 (x0 : Int) (w : World) : (Instr.buildSlice 43 1 [(0, .int .i64 x0)].toArray).run Tryz.prog w = .ok (.slice (some ⟨w.heap.size, 0, none⟩) 1 1) (w.alloc (Go.Rt.blk 3 [.int .i64 x0])) := by kernel_rfl
theorem _root_.Go.Rt.Sl.top {w0 : World} {B F : List (Nat × Obj)} {a : Option Addr} {sz : Nat} {rows : List (List Value)} (h : Sl w0 B a sz rows) : Sl w0 (B ++ F) a sz rows := h.mono fun _ h => h.front
/-- Slices of integers, as values: what each reads as. -/
def EL (w0 : World) (L : List (Nat × Obj)) (vs : List Value) (ll : List (List Int)) : Prop :=
  vs.length = ll.length ∧ ∀ k (h : k < ll.length), ∃ b c, vs[k]? = some (.slice b ll[k].length c) ∧ Sl w0 L b 1 (ll[k].map fun x => [Value.int .i64 x]) ∧ (b = none → c = 0)
theorem EL.mono {w0 : World} {L L' : List (Nat × Obj)} {vs : List Value} {ll : List (List Int)} (h : EL w0 L vs ll) (hs : ∀ w, St w0 w L' → St w0 w L) : EL w0 L' vs ll :=
  ⟨h.1, fun k hk => by obtain ⟨b, c, h1, h2, h3⟩ := h.2 k hk; exact ⟨b, c, h1, h2.mono hs, h3⟩⟩
theorem EL.cons {w0 : World} {L : List (Nat × Obj)} {x : Nat × Obj} {vs : List Value} {ll : List (List Int)} (h : EL w0 L vs ll) : EL w0 (x :: L) vs ll := h.mono fun _ h => h.tail
theorem EL.app {w0 : World} {L B : List (Nat × Obj)} {vs : List Value} {ll : List (List Int)} (h : EL w0 L vs ll) : EL w0 (B ++ L) vs ll := h.mono fun _ h => h.drop
theorem EL.top {w0 : World} {B F : List (Nat × Obj)} {vs : List Value} {ll : List (List Int)} (h : EL w0 B vs ll) : EL w0 (B ++ F) vs ll := h.mono fun _ h => h.front
theorem EL.nil (w0 : World) (L : List (Nat × Obj)) : EL w0 L [] [] := ⟨rfl, fun k h => by simp at h⟩
theorem EL.snoc {w0 : World} {L : List (Nat × Obj)} {vs : List Value} {ll : List (List Int)} {b : Option Addr} {c : Nat} {l : List Int} (h : EL w0 L vs ll) (hl : Sl w0 L b 1 (l.map fun x => [Value.int .i64 x])) (hn : b = none → c = 0) : EL w0 L (vs ++ [.slice b l.length c]) (ll ++ [l]) := by
  refine ⟨by simp [h.1], fun k hk => ?_⟩
  rw [List.length_append, List.length_singleton] at hk
  by_cases hkl : k < ll.length
  · obtain ⟨b', c', h1, h2, h3⟩ := h.2 k hkl
    refine ⟨b', c', ?_, ?_, h3⟩
    · rw [List.getElem?_append_left (by rw [h.1]; exact hkl), h1, List.getElem_append_left hkl]
    · rw [List.getElem_append_left hkl]; exact h2
  · have : k = ll.length := by omega
    subst this
    refine ⟨b, c, ?_, ?_, hn⟩
    · rw [List.getElem?_append_right (by rw [h.1]; omega), h.1]; simp
    · simpa using hl
theorem el_at {w0 : World} {L : List (Nat × Obj)} {a : Option Addr} {vs : List Value} {ll : List (List Int)} {k : Nat} (hs : Sl w0 L a 1 (vs.map fun v => [v])) (h : EL w0 L vs ll) (hk : k < ll.length) :
    ∃ b off b2 c2, a = some ⟨b, off, none⟩ ∧ Ats w0 L b (off + k * 1) [.slice b2 ll[k].length c2] ∧ Sl w0 L b2 1 (ll[k].map fun x => [Value.int .i64 x]) ∧ (b2 = none → c2 = 0) := by
  obtain ⟨b2, c2, h1, h2, h3⟩ := h.2 k hk
  obtain ⟨b, off, ha, _, hat⟩ := hs.at (i := k) (row := [.slice b2 ll[k].length c2]) (by rw [List.getElem?_map, h1]; rfl)
  exact ⟨b, off, b2, c2, ha, hat, h2, h3⟩
theorem el_perm {w0 w : World} {a b : Nat × Obj} {B N E R : List (Nat × Obj)} (h : St w0 w (a :: b :: (B ++ (N ++ (E ++ R))))) : St w0 w (N ++ ((B ++ E) ++ R)) := by
  have h1 : St w0 w (B ++ (N ++ (E ++ R))) := h.tail.tail
  have h2 : St w0 w (N ++ (B ++ (E ++ R))) := h1.perm (zBe B N (E ++ R))
  rwa [← List.append_assoc B] at h2
theorem _root_.Go.Rt.Ats.top {w0 : World} {B F : List (Nat × Obj)} {b off : Nat} {vs : List Value} (h : Ats w0 B b off vs) : Ats w0 (B ++ F) b off vs := h.mono fun _ h => h.front
theorem el_drop2 (N E1 O E F : List (Nat × Obj)) : (N ++ (E1 ++ (O ++ (E ++ F)))).Perm ((O ++ E) ++ (N ++ (E1 ++ F))) := by
  have h := zBe (N ++ E1) (O ++ E) F
  simpa only [List.append_assoc] using h
theorem flat_ints (l : List Int) : (l.map fun x => [Value.int .i64 x]).flatten = iv l := by induction l <;> simp_all
theorem ints_one (l : List Int) : ∀ row ∈ (l.map fun x => [Value.int .i64 x]), ∀ u ∈ row, u.oneCell' = true := by
  intro row hr u hu; obtain ⟨x, _, rfl⟩ := List.mem_map.1 hr; simp at hu; subst hu; rfl
/-- A list of one's own, as a slice: nil has no room. -/
theorem own_ints {w0 : World} {v : Value} {l : List Int} {B : List (Nat × Obj)} (h : Rt.Own v 3 1 l.length (iv l) B) : ∃ a c, v = .slice a l.length c ∧ Sl w0 B a 1 (l.map fun x => [Value.int .i64 x]) ∧ (a = none → c = 0) ∧ l.length ≤ c := by
  obtain ⟨a, c, hv, hs⟩ := own_sl_map (w0 := w0) h rfl []
  rw [List.append_nil] at hs
  refine ⟨a, c, hv, hs, fun ha => ?_, ?_⟩
  · rcases h.2 with ⟨h2, _⟩ | ⟨b, cap, cs, h2, _⟩
    · rw [h2] at hv; injection hv with _ _ h3; exact h3.symm
    · rw [h2] at hv; injection hv with h3; rw [ha] at h3; cases h3
  · rcases h.2 with ⟨h2, h3, _⟩ | ⟨b, cap, cs, h2, _, h4, _⟩
    · rw [h2] at hv; injection hv with _ _ h5; omega
    · rw [h2] at hv; injection hv with _ _ h5; omega
theorem own_ints1 {v : Value} {l : List Int} {d : Int} {B : List (Nat × Obj)} (h : Rt.Own v 3 1 (0 + l.length + 1) ([] ++ (l.map fun x => [Value.int .i64 x]).flatten ++ [[Value.int .i64 d]].flatten) B) : Rt.Own v 3 1 (l ++ [d]).length (iv (l ++ [d])) B := by
  rw [flat_ints] at h
  simpa [Nat.add_comm] using h
theorem own_el {v : Value} {ws : List Value} {u : Value} {NB : List (Nat × Obj)} {g : List (List Int)} {x : List Int} (h : Rt.Own v 43 1 (g.length + 1) (ws ++ [[u]].flatten) NB) : Rt.Own v 43 1 (g ++ [x]).length (ws ++ [u]) NB := by simpa using h
theorem yd_slice {P : Program} {a : Act} {o : Oper} {w : World} {x y : Option Addr} {l c : Nat} (h : x = y) (hy : Yd P a o w (.slice x l c)) : Yd P a o w (.slice y l c) := h ▸ hy
theorem el_more {w0 : World} {B E : List (Nat × Obj)} {ws : List Value} {g : List (List Int)} {a : Option Addr} {c : Nat} {l : List Int} (h : EL w0 E ws g) (hs : Sl w0 B a 1 (l.map fun x => [Value.int .i64 x])) (hn : a = none → c = 0) : EL w0 (B ++ E) (ws ++ [.slice a l.length c]) (g ++ [l]) := h.app.snoc hs.top hn
theorem kp_own {w0 w : World} {F : List (Nat × Obj)} {x a : Nat × Obj} (h : St w0 w (x :: (a :: F))) : St w0 w (x :: F) := (h.perm (zBe [x] [a] F)).tail
theorem kp_opq {w0 w : World} {Y F : List (Nat × Obj)} {x : Nat × Obj} (h : St w0 w (x :: (Y ++ F))) : St w0 w (x :: F) := (h.perm (zBe [x] Y F)).drop
theorem zDl {w0 w : World} {B F : List (Nat × Obj)} {a : Nat × Obj} (h : St w0 w (B ++ (a :: F))) : St w0 w (B ++ F) := (h.perm (zBe B [a] F)).tail
theorem kq_opq {w0 w : World} {B Y F : List (Nat × Obj)} (h : St w0 w (B ++ (Y ++ F))) : St w0 w (B ++ F) := (h.perm (zBe B Y F)).drop
theorem dec_start (l : List Int) : l.take l.length ++ (List.replicate l.length (0 : Int)).drop l.length = (l.take 0).map (· - 1) ++ l.drop 0 := by simp
theorem dec_step {l : List Int} {i : Nat} (h : i < l.length) : ((l.take i).map (· - 1) ++ l.drop i).set i (((l.take i).map (· - 1) ++ l.drop i).getD i 0 - 1) = (l.take (i + 1)).map (· - 1) ++ l.drop (i + 1) := by
  have hl : ((l.take i).map (· - 1)).length = i := by simp; omega
  have hg : ((l.take i).map (· - 1) ++ l.drop i).getD i 0 = l[i] := by
    simp only [List.getD]; rw [List.getElem?_append_right (by omega), hl, Nat.sub_self, List.getElem?_drop]; simp [h]
  rw [hg, List.set_append_right i _ (by omega), hl, Nat.sub_self, List.drop_eq_getElem_cons h, List.set_cons_zero, List.take_succ_eq_append_getElem h, List.map_append, List.append_assoc]; rfl
theorem dec_end (l : List Int) : (l.take l.length).map (· - 1) ++ l.drop l.length = l.map (· - 1) := by simp
theorem dec_len (l : List Int) (i : Nat) : ((l.take i).map (· - 1) ++ l.drop i).length = l.length := by simp; omega
theorem dec_get {l : List Int} (n : Nat) {b : Nat} (h : l = listL b n) (i : Nat) (hn : n ≤ 40) : -50 ≤ ((l.take i).map (· - 1) ++ l.drop i).getD i 0 ∧ ((l.take i).map (· - 1) ++ l.drop i).getD i 0 ≤ 50 := by
  have hm : ∀ z ∈ l, 0 ≤ z ∧ z ≤ 40 := by
    have key : ∀ n, n ≤ 40 → ∀ z ∈ listL b n, 0 ≤ z ∧ z ≤ 40 := by
      intro n
      induction n with
      | zero => intro _ z hz; simp [listL] at hz
      | succ n ih =>
        intro hn z hz
        simp only [listL, List.mem_append] at hz
        rcases hz with hz | hz
        · exact ih (by omega) z hz
        · split at hz <;> simp at hz
          omega
    subst h
    exact key n hn
  generalize hL : (l.take i).map (· - 1) ++ l.drop i = L
  by_cases hi : i < L.length
  · simp only [List.getD, List.getElem?_eq_getElem hi, Option.getD_some]
    have h0 := List.getElem_mem hi
    generalize L[i] = x at h0 ⊢
    rw [← hL] at h0
    rcases List.mem_append.1 h0 with h1 | h1
    · obtain ⟨y, hy, he⟩ := List.mem_map.1 h1
      have h2 := hm y (List.mem_of_mem_take hy)
      omega
    · have h2 := hm _ (List.mem_of_mem_drop h1); omega
  · simp [List.getD, List.getElem?_eq_none (by omega : L.length ≤ i)]
theorem keep_two {w0 w : World} {B1 B2 M F : List (Nat × Obj)} {x y : Nat × Obj} (h : St w0 w (B1 ++ (B2 ++ (M ++ (x :: y :: F))))) : St w0 w ((B1 ++ B2) ++ F) := by
  rw [← List.append_assoc] at h
  exact zDl (zDl (kq_opq h))
theorem c25 {w0 w : World} {F : List (Nat × Obj)} (l : Lot) (p : At3) (hm : LIn w0 F l p) (b : Int) (hs : St w0 w F) :
  Con Tryz.prog 25 [.agg (l.cells p).toArray, .int .i64 b] w fun v w' => ∃ B a c, v = .tuple #[.slice a (gradeP l b).1.length c, .int .i64 (gradeP l b).2] ∧ Sl w0 B a 1 ((gradeP l b).1.map fun x => [Value.int .i64 x]) ∧ St w0 w' (B ++ F) := by
  refine zAw (n := 57) func25 rfl rfl (Nat.le_of_ble_eq_true rfl) ?_
  have hlb0 := hm.lb
  refine zAg (fun K2 hK1 => ?_)
  refine zAb (zB3 (v := .agg #[.slice _ _ _, .slice _ _ _, .slice _ _ _]) (cs := [_, _, _]) zAa rfl rfl rfl hs (fun b3 w4 hs5 => ?_))
  refine w_p (zAc (v := _) rfl rfl) rfl ?_
  refine w_p (zAc (v := _) rfl rfl) rfl ?_
  refine zAf (zAd (hK1 _ _ ?_))
  refine zAg (fun K7 hK6 => ?_)
  refine zB7 [] [(0, 1), (1, 0), (2, 0), (3, 1), (4, 0), (5, 2), (6, 2), (7, 0), (8, 0), (9, 0), (10, 0), (11, 0)] zBu (by kernel_rfl) hs5 (fun w8 hs9 => ?_)
  refine zBa rfl zAa rfl hs9 (fun _ hq => (zA6 (vs := [_, _, _]) isAgg26 sizeOf26 hq rfl rfl (zAj (i := 0) (vs := [_, _, _]) rfl rfl))) ?_
  refine zAp rfl zAa rfl (fun _ => (zAe (v := .int _ _) rfl rfl)) ?_
  refine zAp rfl zAa rfl (fun _ => (zAh (o := 1) (i := 1) underlying26 rfl sizeOf23 rfl rfl rfl)) ?_
  refine zBa rfl zAa rfl hs9 (fun _ hq => (zAk isAgg23 hq rfl rfl (zAj (i := 0) (vs := [_]) rfl rfl))) ?_
  refine zAp rfl zAa rfl (fun _ => (zBd underlying23 rfl rfl)) ?_
  refine zCl rfl ?_
  refine zAt zAa call45 rfl rfl rfl rfl (c45 _ _ hs9) ?_
  rintro _ w11 ⟨bb, bn, rfl, hs12⟩
  refine zAf (qn ⟨hs12.tail.tail, ?_⟩)
  refine zCl rfl ?_
  refine zAt zAa call44 rfl rfl rfl rfl (c44 l p hm.cons.cons.cons (.func (.func 79) #[] #[.pointer (some ⟨bb, 0, none⟩), .pointer (some ⟨bn, 0, none⟩)]) (idxE b l.bunches.length) (fun X w hs => zC4 call79 (c79 b l.bunches.length _ _ (by omega) (Ats.app (zAj (i := 0) (vs := [_]) rfl rfl)) (Ats.app (zAj (i := 1) (vs := [_]) rfl rfl)) hs)) hs12) ?_
  rintro _ w14 (⟨hee, rfl, hs15⟩ | ⟨hee, lb, mm, M, rfl, hM, hs15⟩)
  ·
   refine zAf (qn ⟨hs15.tail.tail, ?_⟩)
   refine zAp rfl zAa rfl (fun _ => (zAe (v := .tuple _) rfl rfl)) ?_
   refine zAp rfl zAa rfl (fun _ => (zAq (v := .pointer _) rfl rfl rfl)) ?_
   refine zAp rfl zAa rfl (fun _ => (zAq (v := .int _ _) rfl rfl rfl)) ?_
   refine zAp rfl zAa rfl (fun _ => (zAc (v := .pointer _) rfl rfl)) ?_
   refine zAp rfl zAa rfl (fun _ => (zAc (v := .int _ _) rfl rfl)) ?_
   refine zB1 ?_
   refine zAd (hK6 _ _ ?_)
   refine zAg (fun K17 hK16 => ?_)
   refine zAg (fun K19 hK18 => ?_)
   refine zAb (w_p (zAe (v := .int _ _) rfl rfl) rfl ?_)
   refine w_p (zCc rfl rfl rfl rfl) rfl ?_
   refine zAf (zAd (hK18 _ _ ?_))
   refine zAz rfl rfl (fun h20 => ?_) (fun h20 => ?_)
   ·
    try simp only [zS] at h20
    refine zAg (fun K22 hK21 => ?_)
    refine zAb (w_p (zAe (v := .int _ _) rfl rfl) rfl ?_)
    refine w_p (zAc (v := _) rfl rfl) rfl ?_
    refine w_p (zAc (v := .int _ _) rfl rfl) rfl ?_
    refine zAf (zAd (hK21 _ _ ?_))
    refine zA2 (zAm (zA3 (l := [.tmp 4, .tmp 5]) (vs := [_, _]) rfl ⟨⟨rfl, show _ = (.slice _ _ _ : Value) from rfl⟩, ⟨rfl, (rfl : _ = Value.int _ _)⟩, trivial⟩ ?_))
    have hq : gradeP l b = ([], enterE l (idxE b l.bunches.length)) := by unfold gradeP; rw [if_pos hee]
    exact ⟨[], none, 0, by rw [hq]; rfl, by rw [hq]; exact Sl.nil _ _, hs15.tail.tail.tail⟩
   exfalso
   try simp only [zS] at h20
   first | exact hee h20 | exact h20 hee
  replace hs15 := (show St _ _ (M ++ (_ :: _ :: _ :: _ :: F)) from hs15)
  have hk := lk_new hs15 hm.cons.cons.cons (zBz hee).1
  have hew := zBz hee
  have hbt := hk.bt
  have hlg := hk.ok.lg
  have hlb := hk.ok.lb
  have hlc := hk.ok.lc
  refine zAf (qn ⟨hs15.drop.tail.tail.tail, ?_⟩)
  refine zAp rfl zAa rfl (fun _ => (zAe (v := .tuple _) rfl rfl)) ?_
  refine zAp rfl zAa rfl (fun _ => (zAq (v := .pointer _) rfl rfl rfl)) ?_
  refine zAp rfl zAa rfl (fun _ => (zAq (v := .int _ _) rfl rfl rfl)) ?_
  refine zAp rfl zAa rfl (fun _ => (zAc (v := .pointer _) rfl rfl)) ?_
  refine zAp rfl zAa rfl (fun _ => (zAc (v := .int _ _) rfl rfl)) ?_
  refine zB1 ?_
  refine zAd (hK6 _ _ ?_)
  refine zAg (fun K24 hK23 => ?_)
  refine zAg (fun K26 hK25 => ?_)
  refine zAb (w_p (zAe (v := .int _ _) rfl rfl) rfl ?_)
  refine w_p (zCc rfl rfl rfl rfl) rfl ?_
  refine zAf (zAd (hK25 _ _ ?_))
  refine zB0 rfl rfl ?_
  refine zAx (zAd (hK23 _ _ ?_))
  refine zAg (fun K28 hK27 => ?_)
  refine zAb (w_p (zAe (v := .pointer _) rfl rfl) rfl ?_)
  refine w_p (zAe (v := .int _ _) rfl rfl) rfl ?_
  refine zAt zAa call58 rfl rfl rfl rfl (bounds_at (X := []) l _ 0 lb mm hk b (idxE_zero hew.2.1) hM hs15) ?_
  rintro _ w30 ⟨rfl, M32, hM32, hs31⟩
  replace hs31 := (show St _ _ (M32 ++ (_ :: _ :: _ :: _ :: F)) from hs31)
  have hs33 := hs31.drop
  refine w_p (zAe (v := .tuple _) rfl rfl) rfl ?_
  refine w_p (zAq (v := .agg _) rfl rfl rfl) rfl ?_
  refine w_p (zAq (v := .int _ _) rfl rfl rfl) rfl ?_
  refine zA9 (cs := [_, _]) zAa zeroValue28 rfl hs33 (fun b34 w35 hs36 => ?_)
  refine zA5 (i := 0) (v := .agg #[.int _ _, .int _ _]) (vs := [_, _]) zAa sizeOf28 rfl rfl rfl rfl rfl (by simp [Value.oneCell']) hs36 rfl (Nat.le_of_ble_eq_true rfl) (fun w37 hs38 => ?_)
  refine w_p (zAc (v := .int _ _) rfl rfl) rfl ?_
  refine zAf (zAd (hK27 _ _ ?_))
  refine zAg (fun K40 hK39 => ?_)
  refine zAb (w_p (zAe (v := .int _ _) rfl rfl) rfl ?_)
  refine w_p (zAh (o := 0) (i := 0) underlying26 rfl sizeOf22 rfl rfl rfl) rfl ?_
  refine w_p (zAk isAgg22 hs38 rfl rfl (zAj (i := 4) (vs := [_]) rfl rfl)) rfl ?_
  refine w_p (zBd underlying22 rfl rfl) rfl ?_
  refine w_p (yd_cast (z' := ((l.grades.length + 1 : Nat) : Int)) (by omega) (zBf rfl rfl rfl rfl (by omega) (by omega))) rfl ?_
  refine zAt zAa call59 rfl rfl rfl rfl (c59 _ _ (by have := setW_lt hk.ok b.toNat (Ha.ways l 0); omega) (by omega) hs38) ?_
  rintro _ w42 ⟨B, hown, hs43⟩
  replace hs43 := (show St _ _ (B ++ (_ :: _ :: _ :: _ :: _ :: F)) from hs43)
  obtain ⟨aL, cL, rfl, hslL, hnL, hcL⟩ := own_ints (w0 := w0) hown
  have hll := listL_le (setW l b.toNat (Ha.ways l 0)) (l.grades.length + 1)
  refine w_p (zAc (v := .slice _ _ _) rfl rfl) rfl ?_
  refine zAf (zAd (hK39 _ _ ?_))
  refine zAg (fun K45 hK44 => ?_)
  refine zAb (w_p (zAe (v := .slice _ _ _) rfl rfl) rfl ?_)
  refine w_p (zBd underlying43 rfl rfl) rfl ?_
  refine w_makeInts (k := (listL (setW l b.toNat (Ha.ways l 0)) (l.grades.length + 1)).length) zAa underlying43 zC9 rfl rfl (by omega) rfl rfl rfl rfl rfl hs43 (fun b46 w47 hs48 => ?_)
  refine w_p (zAc (v := .slice _ _ _) rfl rfl) rfl ?_
  refine zAf (zAd (hK44 _ _ ?_))
  refine zAg (fun K50 hK49 => ?_)
  refine zAb (w_p (zAe (v := .slice _ _ _) rfl rfl) rfl ?_)
  refine w_p (zAe (v := .slice _ _ _) rfl rfl) rfl ?_
  refine w_copyI (i := 0) zAa underlying43 sizeOf3 rfl rfl rfl rfl hs48 rfl hslL.top.cons (by first | omega | rfl | (simp only [dec_len, List.length_map, List.length_set, List.length_append, List.length_take, List.length_drop, List.length_replicate, List.length_cons, List.length_nil] <;> omega)) (by first | omega | rfl | (simp only [dec_len, List.length_map, List.length_set, List.length_append, List.length_take, List.length_drop, List.length_replicate, List.length_cons, List.length_nil] <;> omega)) (fun w51 hs52 => ?_)
  refine zAf (zAd (hK49 _ _ ?_))
  refine zAg (fun K54 hK53 => ?_)
  refine zAg (fun K56 hK55 => ?_)
  refine zAb (w_p (zAe (v := .slice _ _ _) rfl rfl) rfl ?_)
  refine w_p (zBd underlying43 rfl rfl) rfl ?_
  refine w_p (zAe (v := _) rfl rfl) rfl ?_
  refine zAf (zAd (hK55 _ _ ?_))
  refine zAy ?_
  refine zBp [12, 46, 47, 48, 49, 50, 51, 52, 53, 54, 55] [46] (fun k vs w => ∃ (i : Nat), vs = [.int .i64 i] ∧ i ≤ (listL (setW l b.toNat (Ha.ways l 0)) (l.grades.length + 1)).length ∧ k = (listL (setW l b.toNat (Ha.ways l 0)) (l.grades.length + 1)).length - i ∧ St w0 w ((b46, blk 3 (iv (((listL (setW l b.toNat (Ha.ways l 0)) (l.grades.length + 1)).take i).map (· - 1) ++ (listL (setW l b.toNat (Ha.ways l 0)) (l.grades.length + 1)).drop i))) :: F)) ((listL (setW l b.toNat (Ha.ways l 0)) (l.grades.length + 1)).length) ?_ ?_
  ·
   exact ⟨0, rfl, by omega, by omega, by rw [← dec_start]; exact (kp_own (kp_own (kp_own (kp_own (kp_own (kp_opq hs52))))))⟩
  intro k vs μ w59 hI K58 hN57
  obtain ⟨i, rfl, hia, rfl, hs⟩ := hI
  refine zAg (fun K61 hK60 => ?_)
  refine zAb (w_p (zBt rfl rfl rfl rfl) rfl ?_)
  refine zAf (zAd (hK60 _ _ ?_))
  refine zAg (fun K63 hK62 => ?_)
  refine zAz rfl rfl (fun h64 => ?_) (fun h64 => ?_)
  ·
   try simp only [zS] at h64
   refine zAx (zAd (hK62 _ _ ?_))
   refine zAg (fun K66 hK65 => ?_)
   refine zAy ?_
   refine zAg (fun K68 hK67 => ?_)
   refine zAb (w_p (zAe (v := .int _ _) rfl rfl) rfl ?_)
   refine w_p (zAc (v := .int _ _) rfl rfl) rfl ?_
   refine zAf (zAd (hK67 _ _ ?_))
   have hi2 : i < (listL (setW l b.toNat (Ha.ways l 0)) (l.grades.length + 1)).length := by omega
   have hdg := dec_get (l := (listL (setW l b.toNat (Ha.ways l 0)) (l.grades.length + 1))) _ rfl i (by omega)
   refine zAb (w_p (zAe (v := .slice _ _ _) rfl rfl) rfl ?_)
   refine w_p (zAe (v := .int _ _) rfl rfl) rfl ?_
   refine w_p (zA7 underlying43 sizeOf3 rfl rfl rfl rfl (i := i) (by first | rfl | omega) (by omega)) rfl ?_
   refine w_p (zAk isAgg3 hs rfl rfl (zCb (i := 0) (j := i) rfl (by first | omega | rfl | (simp only [dec_len, List.length_map, List.length_set, List.length_append, List.length_take, List.length_drop, List.length_replicate, List.length_cons, List.length_nil] <;> omega)))) rfl ?_
   refine w_p (y_sub rfl rfl rfl rfl (by omega) (by omega)) rfl ?_
   refine w_p (zA7 underlying43 sizeOf3 rfl rfl rfl rfl (i := i) (by first | rfl | omega) (by omega)) rfl ?_
   refine w_storeAtI (i := 0) (j := i) zAa sizeOf3 rfl rfl rfl rfl hs rfl (by first | omega | rfl | (simp only [dec_len, List.length_map, List.length_set, List.length_append, List.length_take, List.length_drop, List.length_replicate, List.length_cons, List.length_nil] <;> omega)) (fun w69 hs70 => ?_)
   refine zAf (zAl (zAd (hK65 _ _ ?_)))
   refine zAb (w_p (zBf rfl rfl rfl rfl (by omega) (by omega)) rfl ?_)
   refine w_p (zAe (v := .int _ _) rfl rfl) rfl ?_
   refine zAf (zAd (hN57 _ _ (Nx.intro ((listL (setW l b.toNat (Ha.ways l 0)) (l.grades.length + 1)).length - (i + 1)) (by omega) (by repeat (first | exact zAv | refine zAu rfl ?_ | refine zAs rfl ?_ _ | refine zAr rfl ?_)) ?_)))
   exact ⟨i + 1, rfl, by omega, rfl, by rw [← dec_step hi2]; exact hs70⟩
  try simp only [zS] at h64
  refine zBl (zAo (zAo (zA4 (zAd (hK53 _ _ ?_)))))
  refine zAg (fun K72 hK71 => ?_)
  refine zAb (w_p (zAe (v := .slice _ _ _) rfl rfl) rfl ?_)
  refine w_p (zAc (v := .slice _ _ _) rfl rfl) rfl ?_
  refine w_p (zAc (v := _) rfl rfl) rfl ?_
  refine zAf (zAd (hK71 _ _ ?_))
  refine zA2 (zA3 (l := [.tmp 4, .tmp 5]) (vs := [_, _]) rfl ⟨⟨rfl, show _ = (.slice _ _ _ : Value) from rfl⟩, ⟨rfl, (rfl : _ = Value.int _ _)⟩, trivial⟩ ?_)
  have hil : i = (listL (setW l b.toNat (Ha.ways l 0)) (l.grades.length + 1)).length := by omega
  subst hil
  have hq : gradeP l b = ((listL (setW l b.toNat (Ha.ways l 0)) (l.grades.length + 1)).map (· - 1), 0) := by unfold gradeP; rw [if_neg (by simp [hee])]
  rw [dec_end] at hs
  exact ⟨[_], some ⟨_, 0, none⟩, _, by rw [hq, List.length_map]; rfl, by rw [hq]; exact zDh (i := 0) rfl, hs⟩

theorem sure_yes {l : Lot} {ws : List (List Int)} {i : Nat} (h : ((setW l i ws : Nat) : Int) = 1) : sureTo l ws (i + 1) = sureTo l ws i ++ [(i : Int)] := by simp only [sureTo]; rw [if_pos (by omega)]
theorem sure_no {l : Lot} {ws : List (List Int)} {i : Nat} (h : ¬ ((setW l i ws : Nat) : Int) = 1) : sureTo l ws (i + 1) = sureTo l ws i := by simp only [sureTo]; rw [if_neg (by omega), List.append_nil]
theorem may_yes {l : Lot} {ws : List (List Int)} {i : Nat} (h : ((setW l i ws &&& 1 : Nat) : Int) = 1) : mayTo l ws (i + 1) = mayTo l ws i ++ [(i : Int)] := by simp only [mayTo]; rw [if_pos (by omega)]
theorem may_no {l : Lot} {ws : List (List Int)} {i : Nat} (h : ¬ ((setW l i ws &&& 1 : Nat) : Int) = 1) : mayTo l ws (i + 1) = mayTo l ws i := by simp only [mayTo]; rw [if_neg (by omega), List.append_nil]
theorem sure_len (l : Lot) (ws : List (List Int)) : ∀ n, (sureTo l ws n).length ≤ n
  | 0 => by simp [sureTo]
  | n + 1 => by have := sure_len l ws n; simp only [sureTo, List.length_append]; split <;> simp <;> omega
theorem may_len (l : Lot) (ws : List (List Int)) : ∀ n, (mayTo l ws n).length ≤ n
  | 0 => by simp [mayTo]
  | n + 1 => by have := may_len l ws n; simp only [mayTo, List.length_append]; split <;> simp <;> omega
theorem own_both {w0 w : World} {v1 v2 : Value} {l1 l2 : List Int} {B1 B2 F : List (Nat × Obj)} (h1 : Rt.Own v1 3 1 l1.length (iv l1) B1) (h2 : Rt.Own v2 3 1 l2.length (iv l2) B2) (hs : St w0 w ((B1 ++ B2) ++ F)) (e : Int) :
    ∃ B a1 c1 a2 c2, Value.tuple #[v1, v2, .int .i64 e] = .tuple #[.slice a1 l1.length c1, .slice a2 l2.length c2, .int .i64 e] ∧ Sl w0 B a1 1 (l1.map fun x => [Value.int .i64 x]) ∧ Sl w0 B a2 1 (l2.map fun x => [Value.int .i64 x]) ∧ St w0 w (B ++ F) := by
  obtain ⟨a1, c1, rfl, hs1, _⟩ := own_ints (w0 := w0) h1
  obtain ⟨a2, c2, rfl, hs2, _⟩ := own_ints (w0 := w0) h2
  exact ⟨B1 ++ B2, a1, c1, a2, c2, rfl, hs1.mono fun _ h => h.front, hs2.app, hs⟩
theorem c26 {w0 w : World} {F : List (Nat × Obj)} (l : Lot) (p : At3) (hm : LIn w0 F l p)  (hs : St w0 w F) :
  Con Tryz.prog 26 [.agg (l.cells p).toArray] w fun v w' => ∃ B a1 c1 a2 c2, v = .tuple #[.slice a1 (refusedP l).1.length c1, .slice a2 (refusedP l).2.1.length c2, .int .i64 (refusedP l).2.2] ∧ Sl w0 B a1 1 ((refusedP l).1.map fun x => [Value.int .i64 x]) ∧ Sl w0 B a2 1 ((refusedP l).2.1.map fun x => [Value.int .i64 x]) ∧ St w0 w' (B ++ F) := by
  refine zAw (n := 45) func26 rfl rfl (Nat.le_of_ble_eq_true rfl) ?_
  have hlb0 := hm.lb
  refine zAg (fun K2 hK1 => ?_)
  refine zAb (zB3 (v := .agg #[.slice _ _ _, .slice _ _ _, .slice _ _ _]) (cs := [_, _, _]) zAa rfl rfl rfl hs (fun b3 w4 hs5 => ?_))
  refine w_p (zAc (v := _) rfl rfl) rfl ?_
  refine w_p (zAc (v := _) rfl rfl) rfl ?_
  refine w_p (zAc (v := _) rfl rfl) rfl ?_
  refine zAf (zAd (hK1 _ _ ?_))
  refine zAg (fun K7 hK6 => ?_)
  refine zAb (w_p (zA6 (vs := [_, _, _]) isAgg26 sizeOf26 hs5 rfl rfl (zAj (i := 0) (vs := [_, _, _]) rfl rfl)) rfl ?_)
  refine zAt zAa call44 rfl rfl rfl rfl (c44 l p hm.cons (.func (.func 60) #[] #[]) 0 (fun X w hs => zC4 call60 (c60 hs)) hs5) ?_
  rintro _ w9 (⟨hee, rfl, hs10⟩ | ⟨hee, lb, mm, M, rfl, hM, hs10⟩)
  ·
   refine w_p (zAe (v := .tuple _) rfl rfl) rfl ?_
   refine w_p (zAq (v := .pointer _) rfl rfl rfl) rfl ?_
   refine w_p (zAq (v := .int _ _) rfl rfl rfl) rfl ?_
   refine w_p (zAc (v := .pointer _) rfl rfl) rfl ?_
   refine w_p (zAc (v := .int _ _) rfl rfl) rfl ?_
   refine zAf (zAd (hK6 _ _ ?_))
   refine zAg (fun K12 hK11 => ?_)
   refine zAg (fun K14 hK13 => ?_)
   refine zAb (w_p (zAe (v := .int _ _) rfl rfl) rfl ?_)
   refine w_p (zCc rfl rfl rfl rfl) rfl ?_
   refine zAf (zAd (hK13 _ _ ?_))
   refine zAz rfl rfl (fun h15 => ?_) (fun h15 => ?_)
   ·
    try simp only [zS] at h15
    refine zAg (fun K17 hK16 => ?_)
    refine zAb (w_p (zAe (v := .int _ _) rfl rfl) rfl ?_)
    refine w_p (zAc (v := _) rfl rfl) rfl ?_
    refine w_p (zAc (v := _) rfl rfl) rfl ?_
    refine w_p (zAc (v := .int _ _) rfl rfl) rfl ?_
    refine zAf (zAd (hK16 _ _ ?_))
    refine zA2 (zAm (zA3 (l := [.tmp 2, .tmp 3, .tmp 4]) (vs := [_, _, _]) rfl ⟨⟨rfl, show _ = (.slice _ _ _ : Value) from rfl⟩, ⟨rfl, show _ = (.slice _ _ _ : Value) from rfl⟩, ⟨rfl, (rfl : _ = Value.int _ _)⟩, trivial⟩ ?_))
    have hq : refusedP l = ([], [], enterE l 0) := by unfold refusedP; rw [if_pos hee]
    exact ⟨[], none, 0, none, 0, by rw [hq]; rfl, by rw [hq]; exact Sl.nil _ _, by rw [hq]; exact Sl.nil _ _, hs10.tail⟩
   exfalso
   try simp only [zS] at h15
   first | exact hee h15 | exact h15 hee
  replace hs10 := (show St _ _ (M ++ (_ :: _ :: F)) from hs10)
  have hk := lk_new hs10 hm.cons (zBz hee).1
  have hew := zBz hee
  have hbt := hk.bt
  have hlg := hk.ok.lg
  have hlb := hk.ok.lb
  have hlc := hk.ok.lc
  refine w_p (zAe (v := .tuple _) rfl rfl) rfl ?_
  refine w_p (zAq (v := .pointer _) rfl rfl rfl) rfl ?_
  refine w_p (zAq (v := .int _ _) rfl rfl rfl) rfl ?_
  refine w_p (zAc (v := .pointer _) rfl rfl) rfl ?_
  refine w_p (zAc (v := .int _ _) rfl rfl) rfl ?_
  refine zAf (zAd (hK6 _ _ ?_))
  refine zAg (fun K19 hK18 => ?_)
  refine zAg (fun K21 hK20 => ?_)
  refine zAb (w_p (zAe (v := .int _ _) rfl rfl) rfl ?_)
  refine w_p (zCc rfl rfl rfl rfl) rfl ?_
  refine zAf (zAd (hK20 _ _ ?_))
  refine zB0 rfl rfl ?_
  refine zAx (zAd (hK18 _ _ ?_))
  refine zAg (fun K23 hK22 => ?_)
  refine zAg (fun K25 hK24 => ?_)
  have hbx : Ats w0 ((lb, blk 141 [.slice p.ag l.grades.length p.cg, .slice p.ab l.bunches.length p.cb, .slice p.ac l.counts.length p.cc, .int .i64 ((0 : Nat) : Int), .map (some mm)]) :: (b3, blk 26 (l.cells p)) :: F) b3 0 (l.cells p) := zAj (i := 1) rfl rfl
  refine zAb (w_p (zAh (o := 1) (i := 1) underlying26 rfl sizeOf23 rfl rfl rfl) rfl ?_)
  refine w_p (zAk isAgg23 hs10.drop rfl rfl (show Ats _ _ _ _ [_] from Ats.part hbx 1 1)) rfl ?_
  refine w_p (zBd underlying23 rfl rfl) rfl ?_
  refine w_p (zAe (v := _) rfl rfl) rfl ?_
  refine zAf (zAd (hK24 _ _ ?_))
  refine zAy ?_
  refine zBp [2, 3, 6, 7, 8, 20, 21, 22, 23, 24, 25, 26, 27, 28, 29, 30, 31, 32, 33, 34, 35, 36, 37, 38, 39, 40, 41, 42] [2, 3, 20] (fun k vs w => ∃ (i : Nat) (v1 v2 : Value) (B1 B2 M : List (Nat × Obj)), vs = [v1, v2, .int .i64 i] ∧ i ≤ l.bunches.length ∧ k = l.bunches.length - i ∧ Rt.Own v1 3 1 (sureTo l (Ha.ways l 0) i).length (iv (sureTo l (Ha.ways l 0) i)) B1 ∧ Rt.Own v2 3 1 (mayTo l (Ha.ways l 0) i).length (iv (mayTo l (Ha.ways l 0) i)) B2 ∧ Memo l mm M ∧ St w0 w (B1 ++ (B2 ++ (M ++ ((lb, blk 141 [.slice p.ag l.grades.length p.cg, .slice p.ab l.bunches.length p.cb, .slice p.ac l.counts.length p.cc, .int .i64 ((0 : Nat) : Int), .map (some mm)]) :: (b3, blk 26 (l.cells p)) :: F))))) (l.bunches.length) ?_ ?_
  ·
   exact ⟨0, _, _, [], [], M, rfl, by omega, by omega, own_nil 3 1, own_nil 3 1, hM, hs10⟩
  intro k vs μ w28 hI K27 hN26
  obtain ⟨i, v1, v2, B1, B2, M, rfl, hia, rfl, hown1, hown2, hM, hs⟩ := hI
  refine zAg (fun K30 hK29 => ?_)
  refine zAb (w_p (zBt rfl rfl rfl rfl) rfl ?_)
  refine zAf (zAd (hK29 _ _ ?_))
  refine zAg (fun K32 hK31 => ?_)
  refine zAz rfl rfl (fun h33 => ?_) (fun h33 => ?_)
  ·
   try simp only [zS] at h33
   refine zAx (zAd (hK31 _ _ ?_))
   refine zAg (fun K35 hK34 => ?_)
   refine zAy ?_
   refine zAg (fun K37 hK36 => ?_)
   refine zAb (w_p (zAe (v := .int _ _) rfl rfl) rfl ?_)
   refine w_p (zAc (v := .int _ _) rfl rfl) rfl ?_
   refine zAf (zAd (hK36 _ _ ?_))
   refine zAg (fun K39 hK38 => ?_)
   have hi2 : i < l.bunches.length := by omega
   have hsl := sure_len l (Ha.ways l 0) i
   have hml := may_len l (Ha.ways l 0) i
   have hsw := setW_lt hk.ok i (Ha.ways l 0)
   refine zAb (w_p (zAe (v := .pointer _) rfl rfl) rfl ?_)
   refine w_p (zAe (v := .int _ _) rfl rfl) rfl ?_
   refine zAt zAa call58 rfl rfl rfl rfl (c58 (X := (B1 ++ (B2))) l _ 0 lb mm hk i hi2 hM (St.cast (by simp only [List.append_assoc, List.cons_append] <;> rfl) hs)) ?_
   rintro _ w41 ⟨rfl, M43, hM43, hs42⟩
   replace hs42 : St _ _ (B1 ++ (B2 ++ (M43 ++ (_ :: _ :: F)))) := St.cast (by simp only [List.append_assoc, List.cons_append] <;> rfl) hs42
   refine w_p (zAe (v := .tuple _) rfl rfl) rfl ?_
   refine w_p (zAq (v := .agg _) rfl rfl rfl) rfl ?_
   refine w_p (zAq (v := .int _ _) rfl rfl rfl) rfl ?_
   refine zA9 (cs := [_, _]) zAa zeroValue28 rfl hs42 (fun b44 w45 hs46 => ?_)
   refine zA5 (i := 0) (v := .agg #[.int _ _, .int _ _]) (vs := [_, _]) zAa sizeOf28 rfl rfl rfl rfl rfl (by simp [Value.oneCell']) hs46 rfl (Nat.le_of_ble_eq_true rfl) (fun w47 hs48 => ?_)
   refine w_p (zAc (v := .int _ _) rfl rfl) rfl ?_
   refine zAf (zAd (hK38 _ _ ?_))
   refine zAg (fun K50 hK49 => ?_)
   refine zAg (fun K52 hK51 => ?_)
   refine zAb (w_p (zAe (v := .int _ _) rfl rfl) rfl ?_)
   refine w_p (zBy rfl rfl rfl rfl) rfl ?_
   refine zAf (zAd (hK51 _ _ ?_))
   refine zAz rfl rfl (fun h53 => ?_) (fun h53 => ?_)
   ·
    try simp only [zS] at h53
    refine zAb (w_p (zAe (v := v1) rfl rfl) rfl ?_)
    refine w_p (zAe (v := .int _ _) rfl rfl) rfl ?_
    refine zBh (ps := [(0, _)]) (pv := [(0, .int _ _)]) (cs := [_]) zAa rfl rfl (fun w => Try_HL_fb2 _ w) hs48 (fun b54 w55 hs56 => ?_)
    refine zCw (X := (_ :: _ :: [])) (B := B1) (rows := [[_]]) (sz := 1) (bytes := 8) zAa underlying43 zC9 rfl rfl rfl rfl rfl rfl rfl rfl rfl hs56 hown1 (zBr (i := 0) rfl (by simp) rfl) rfl (by simp) (by simp [Value.oneCell']) (by simp only [maxLen]; omega) (by omega) (fun v57 w58 B59 ho60 hs61 => ?_)
    replace hs61 := (show St _ _ (_ :: _ :: B59 ++ (B2 ++ (M43 ++ (_ :: _ :: F)))) from hs61)
    refine w_p (zAc (v := v57) rfl rfl) rfl ?_
    refine zAf (zAd (hK49 _ _ ?_))
    refine zAg (fun K63 hK62 => ?_)
    refine zAb (w_p (zAe (v := .int _ _) rfl rfl) rfl ?_)
    refine w_p (y_and (x := setW l i (Ha.ways l 0)) (y := 1) rfl rfl rfl rfl (by first | rfl | omega) rfl (by first | omega | exact zB8 (by omega)) (by first | omega | exact zB8 (by omega))) rfl ?_
    refine w_p (zBy rfl rfl rfl rfl) rfl ?_
    refine zAf (zAd (hK62 _ _ ?_))
    refine zAz rfl rfl (fun h64 => ?_) (fun h64 => ?_)
    ·
     try simp only [zS] at h64
     refine zAb (w_p (zAe (v := v2) rfl rfl) rfl ?_)
     refine w_p (zAe (v := .int _ _) rfl rfl) rfl ?_
     refine zBh (ps := [(0, _)]) (pv := [(0, .int _ _)]) (cs := [_]) zAa rfl rfl (fun w => Try_HL_fb2 _ w) hs61 (fun b65 w66 hs67 => ?_)
     refine zCw (X := (_ :: _ :: _ :: B59)) (B := B2) (rows := [[_]]) (sz := 1) (bytes := 8) zAa underlying43 zC9 rfl rfl rfl rfl rfl rfl rfl rfl rfl hs67 hown2 (zBr (i := 0) rfl (by simp) rfl) rfl (by simp) (by simp [Value.oneCell']) (by simp only [maxLen]; omega) (by omega) (fun v68 w69 B70 ho71 hs72 => ?_)
     replace hs72 := (show St _ _ (_ :: _ :: _ :: B59 ++ (B70 ++ (M43 ++ (_ :: _ :: F)))) from hs72)
     refine w_p (zAc (v := v68) rfl rfl) rfl ?_
     refine zAf (zAl (zAd (hK34 _ _ ?_)))
     refine zAb (w_p (zBf rfl rfl rfl rfl (by omega) (by omega)) rfl ?_)
     refine w_p (zAe (v := .int _ _) rfl rfl) rfl ?_
     refine zAf (zAd (hN26 _ _ (Nx.intro (l.bunches.length - (i + 1)) (by omega) (by repeat (first | exact zAv | refine zAu rfl ?_ | refine zAs rfl ?_ _ | refine zAr rfl ?_)) ?_)))
     exact ⟨i + 1, _, _, B59, B70, M43, rfl, by omega, rfl, by rw [sure_yes (by assumption)]; exact own_snoc ho60, by rw [may_yes (by assumption)]; exact own_snoc ho71, hM43, hs72.tail.tail.tail⟩
    try simp only [zS] at h64
    refine zAx (zAl (zAd (hK34 _ _ ?_)))
    refine zAb (w_p (zBf rfl rfl rfl rfl (by omega) (by omega)) rfl ?_)
    refine w_p (zAe (v := .int _ _) rfl rfl) rfl ?_
    refine zAf (zAd (hN26 _ _ (Nx.intro (l.bunches.length - (i + 1)) (by omega) (by repeat (first | exact zAv | refine zAu rfl ?_ | refine zAs rfl ?_ _ | refine zAr rfl ?_)) ?_)))
    exact ⟨i + 1, _, _, B59, B2, M43, rfl, by omega, rfl, by rw [sure_yes (by assumption)]; exact own_snoc ho60, by rw [may_no (by assumption)]; exact hown2, hM43, hs61.tail.tail⟩
   try simp only [zS] at h53
   refine zAx (zAd (hK49 _ _ ?_))
   refine zAg (fun K74 hK73 => ?_)
   refine zAb (w_p (zAe (v := .int _ _) rfl rfl) rfl ?_)
   refine w_p (y_and (x := setW l i (Ha.ways l 0)) (y := 1) rfl rfl rfl rfl (by first | rfl | omega) rfl (by first | omega | exact zB8 (by omega)) (by first | omega | exact zB8 (by omega))) rfl ?_
   refine w_p (zBy rfl rfl rfl rfl) rfl ?_
   refine zAf (zAd (hK73 _ _ ?_))
   refine zAz rfl rfl (fun h75 => ?_) (fun h75 => ?_)
   ·
    try simp only [zS] at h75
    refine zAb (w_p (zAe (v := v2) rfl rfl) rfl ?_)
    refine w_p (zAe (v := .int _ _) rfl rfl) rfl ?_
    refine zBh (ps := [(0, _)]) (pv := [(0, .int _ _)]) (cs := [_]) zAa rfl rfl (fun w => Try_HL_fb2 _ w) hs48 (fun b76 w77 hs78 => ?_)
    refine zCw (X := (_ :: _ :: B1)) (B := B2) (rows := [[_]]) (sz := 1) (bytes := 8) zAa underlying43 zC9 rfl rfl rfl rfl rfl rfl rfl rfl rfl hs78 hown2 (zBr (i := 0) rfl (by simp) rfl) rfl (by simp) (by simp [Value.oneCell']) (by simp only [maxLen]; omega) (by omega) (fun v79 w80 B81 ho82 hs83 => ?_)
    replace hs83 := (show St _ _ (_ :: _ :: B1 ++ (B81 ++ (M43 ++ (_ :: _ :: F)))) from hs83)
    refine w_p (zAc (v := v79) rfl rfl) rfl ?_
    refine zAf (zAl (zAd (hK34 _ _ ?_)))
    refine zAb (w_p (zBf rfl rfl rfl rfl (by omega) (by omega)) rfl ?_)
    refine w_p (zAe (v := .int _ _) rfl rfl) rfl ?_
    refine zAf (zAd (hN26 _ _ (Nx.intro (l.bunches.length - (i + 1)) (by omega) (by repeat (first | exact zAv | refine zAu rfl ?_ | refine zAs rfl ?_ _ | refine zAr rfl ?_)) ?_)))
    exact ⟨i + 1, _, _, B1, B81, M43, rfl, by omega, rfl, by rw [sure_no (by assumption)]; exact hown1, by rw [may_yes (by assumption)]; exact own_snoc ho82, hM43, hs83.tail.tail⟩
   try simp only [zS] at h75
   refine zAx (zAl (zAd (hK34 _ _ ?_)))
   refine zAb (w_p (zBf rfl rfl rfl rfl (by omega) (by omega)) rfl ?_)
   refine w_p (zAe (v := .int _ _) rfl rfl) rfl ?_
   refine zAf (zAd (hN26 _ _ (Nx.intro (l.bunches.length - (i + 1)) (by omega) (by repeat (first | exact zAv | refine zAu rfl ?_ | refine zAs rfl ?_ _ | refine zAr rfl ?_)) ?_)))
   exact ⟨i + 1, _, _, B1, B2, M43, rfl, by omega, rfl, by rw [sure_no (by assumption)]; exact hown1, by rw [may_no (by assumption)]; exact hown2, hM43, hs48.tail⟩
  try simp only [zS] at h33
  refine zBl (zAo (zAo (zA4 (zAd (hK22 _ _ ?_)))))
  refine zAg (fun K85 hK84 => ?_)
  refine zAb (w_p (zAe (v := v1) rfl rfl) rfl ?_)
  refine w_p (zAe (v := v2) rfl rfl) rfl ?_
  refine w_p (zAc (v := v1) rfl rfl) rfl ?_
  refine w_p (zAc (v := v2) rfl rfl) rfl ?_
  refine w_p (zAc (v := _) rfl rfl) rfl ?_
  refine zAf (zAd (hK84 _ _ ?_))
  refine zA2 (zA3 (l := [.tmp 2, .tmp 3, .tmp 4]) (vs := [_, _, _]) rfl ⟨⟨rfl, show _ = (v1 : Value) from rfl⟩, ⟨rfl, show _ = (v2 : Value) from rfl⟩, ⟨rfl, (rfl : _ = Value.int _ _)⟩, trivial⟩ ?_)
  have hil : i = l.bunches.length := by omega
  subst hil
  have hq : refusedP l = (sureTo l (Ha.ways l 0) l.bunches.length, mayTo l (Ha.ways l 0) l.bunches.length, 0) := by unfold refusedP; rw [if_neg (by simp [hee])]
  rw [hq]
  exact own_both hown1 hown2 (keep_two hs) 0

end Go.Proofs.Hn
/- The walking engine, part 15: loops that hold ranges over functions: the marks pile up. No conditions. -/
namespace Go.Rt
open Go.RowKit
variable {r : Option Nat} {P : Program} {ops : Array Oper} {Q : Exit → Act → World → Prop} {rest : List Oper} {n : Nat} {ρ : Nat → Value} {ds : List Deferred} {w w0 : World} {L : List (Nat × Obj)}
/-- Marks, and the blocks that they name. -/
def mks (bs : List Nat) : List Deferred := bs.map mk
def dfs (bs : List Nat) : List (Nat × Obj) := bs.map fun b => (b, .deferred (some []))
def NxD (n : Nat) (D S : List Nat) (ρ : Nat → Value) (I : Nat → List Value → List Nat → World → Prop) (k : Nat) (a : Act) (w : World) : Prop :=
  ∃ ρ' k' bs', a = A n ρ' (mks bs') ∧ Agree D ρ ρ' ∧ k' < k ∧ I k' (S.map ρ') bs' w
theorem NxD.intro {D S : List Nat} {I : Nat → List Value → List Nat → World → Prop} {k : Nat} {ρ' : Nat → Value} (bs' : List Nat) (k' : Nat) (hk : k' < k) (ha : Agree D ρ ρ') (hI : I k' (S.map ρ') bs' w) : NxD n D S ρ I k (A n ρ' (mks bs')) w :=
  ⟨ρ', k', bs', rfl, ha, hk, hI⟩
open Classical in
theorem w_loopD {c : Code} (D S : List Nat) (I : Nat → List Value → List Nat → World → Prop) (k0 : Nat) (bs0 : List Nat) (h0 : I k0 (S.map ρ) bs0 w)
    (round : ∀ k vs μ bs w, I k vs bs w → ∀ K : Act → World → Prop, (∀ a w, NxD n D S ρ I k a w → K a w) → WC r P c (Exit.then K Q) (A n (updL (mix D ρ μ) S vs) (mks bs)) w) :
    WC r P (.loop c) Q (A n ρ (mks bs0)) w := by
  let J : Nat → Act → World → Prop := fun k a w => ∃ vs μ bs, a = A n (updL (mix D ρ μ) S vs) (mks bs) ∧ I k vs bs w
  refine wpIn_loop (fun a w => ∃ k, J k a w) (fun a w => leastOf fun k => J k a w) ⟨k0, S.map ρ, ρ, bs0, by rw [mixL_self S agree_refl], h0⟩ ?_
  intro a w hI
  obtain ⟨vs, μ, bs, ha, hi⟩ := (leastOf_spec hI).1
  subst ha
  refine wpIn_mono (round _ vs μ bs w hi _ fun _ _ h => h) ?_
  intro e a' w' hq
  cases e with
  | normal =>
    obtain ⟨ρ', k', bs', rfl, hag, hlt, hI'⟩ := hq
    have hJ : J k' (A n ρ' (mks bs')) w' := ⟨S.map ρ', ρ', bs', by rw [mixL_self S hag], hI'⟩
    exact show (∃ k, J k (A n ρ' (mks bs')) w') ∧ leastOf (fun k => J k (A n ρ' (mks bs')) w') < leastOf (fun k => J k _ w) from ⟨⟨k', hJ⟩, Nat.lt_of_le_of_lt ((leastOf_spec ⟨k', hJ⟩).2 k' hJ) hlt⟩
  | exit id => exact hq
  | goto l => exact hq
  | ret => exact hq
  | panic ch => exact hq
  | outgrown => exact hq
theorem leavesMM {fn : Func} {l : List ResultVar} {vs : List Value} {R : Value → World → Prop} (hl : fn.results = l.toArray) : ∀ (bs : List Nat) (w : World), St w0 w (dfs bs ++ L) → (∀ w', St w0 w' L → RVs P ρ n w' l vs ∧ R (retV vs) w') →
    LeavesInM (FW none) 0 P fn (fa n ρ) (fun e w' => ∃ v, e = .returned v ∧ R v w') (mks bs) .returning w
  | [], w, hst, h => by
    obtain ⟨h1, h2⟩ := h _ hst
    exact ⟨_, results_A hl h1, _, rfl, h2⟩
  | bd :: bs, w, hst, h => by
    have hst1 : St w0 w ((bd, .deferred (some [])) :: (dfs bs ++ L)) := hst
    exact ⟨by simp, .inl ⟨bd, _, rfl, run_takeDeferred (hst1.get (i := 0) rfl), leavesMM hl bs _ (hst1.putObj (i := 0) rfl _).tail h⟩⟩
theorem q_retMM {fn : Func} {l : List ResultVar} {vs : List Value} {R : Value → World → Prop} {bs : List Nat} (hst : St w0 w (dfs bs ++ L)) (hl : fn.results = l.toArray)
    (h : ∀ w', St w0 w' L → RVs P ρ n w' l vs ∧ R (retV vs) w') :
    bodyPostM (FW none) 0 P fn (fun e w' => ∃ v, e = .returned v ∧ R v w') .ret (A n ρ (mks bs)) w := leavesMM hl bs w hst h
end Go.Rt
set_option maxRecDepth 20000
namespace Go.Proofs.Hn
open Go.Proofs.Tryz
open Go.Rt Go.Rt.Ha
attribute [local irreducible] WL WC Con Yd At Ats Sl Agree DW

theorem c117 {w0 w : World} {F : List (Nat × Obj)} (x : Int) (hs : St w0 w F) :
  Con Tryz.prog 117 [.int .i64 x] w fun v w' => v = .bool false ∧ St w0 w' F := by
  refine zAw (n := 6) func117 rfl rfl (Nat.le_of_ble_eq_true rfl) ?_
  refine zAg (fun K2 hK1 => ?_)
  refine zAb (w_p (zAc (v := _) rfl rfl) rfl ?_)
  refine zAf (zAd (hK1 _ _ ?_))
  refine zAg (fun K4 hK3 => ?_)
  refine zAb (w_p (zAe (v := .int _ _) rfl rfl) rfl ?_)
  refine w_p (zAe (v := .int _ _) rfl rfl) rfl ?_
  refine w_p (zCc rfl rfl rfl rfl) rfl ?_
  refine w_p (zAc (v := .bool _) rfl rfl) rfl ?_
  refine zAf (zAd (hK3 _ _ ?_))
  refine zA2 (zA3 (l := [.tmp 2]) (vs := [_]) rfl ⟨⟨rfl, (rfl : _ = Value.bool _)⟩, trivial⟩ ?_)
  exact ⟨by simp [retV], hs⟩

def cmpI (a b : Int) : Int := if a < b then -1 else if b < a then 1 else 0
theorem c108 {w0 w : World} {F : List (Nat × Obj)} (a b : Int) (hs : St w0 w F) :
  Con Tryz.prog 108 [.int .i64 a, .int .i64 b] w fun v w' => v = .int .i64 (cmpI a b) ∧ St w0 w' F := by
  refine zAw (n := 20) func108 rfl rfl (Nat.le_of_ble_eq_true rfl) ?_
  refine zAg (fun K2 hK1 => ?_)
  refine zAb (w_p (zAc (v := _) rfl rfl) rfl ?_)
  refine zAf (zAd (hK1 _ _ ?_))
  refine zAg (fun K4 hK3 => ?_)
  refine zAb (w_p (zAe (v := .int _ _) rfl rfl) rfl ?_)
  refine zAt zAa call117 rfl rfl rfl rfl (c117 _ hs) ?_
  rintro _ w6 ⟨rfl, hs7⟩
  refine w_p (zAc (v := .bool _) rfl rfl) rfl ?_
  refine zAf (zAd (hK3 _ _ ?_))
  refine zAg (fun K9 hK8 => ?_)
  refine zAb (w_p (zAe (v := .int _ _) rfl rfl) rfl ?_)
  refine zAt zAa call117 rfl rfl rfl rfl (c117 _ hs7) ?_
  rintro _ w11 ⟨rfl, hs12⟩
  refine w_p (zAc (v := .bool _) rfl rfl) rfl ?_
  refine zAf (zAd (hK8 _ _ ?_))
  refine zAg (fun K14 hK13 => ?_)
  refine zAg (fun K16 hK15 => ?_)
  refine zAb (w_p (zAe (v := .bool _) rfl rfl) rfl ?_)
  refine zAf (zAd (hK15 _ _ ?_))
  refine zB0 rfl rfl ?_
  refine zAx (zAd (hK13 _ _ ?_))
  refine zAg (fun K18 hK17 => ?_)
  refine zAg (fun K20 hK19 => ?_)
  refine zAb (w_p (zAe (v := .bool _) rfl rfl) rfl ?_)
  refine zAf (zAd (hK19 _ _ ?_))
  refine zB0 rfl rfl ?_
  refine zAx (zAd (hK17 _ _ ?_))
  refine zAg (fun K22 hK21 => ?_)
  refine zAg (fun K24 hK23 => ?_)
  refine zAb (w_p (zAe (v := .int _ _) rfl rfl) rfl ?_)
  refine w_p (zAe (v := .int _ _) rfl rfl) rfl ?_
  refine w_p (zBt rfl rfl rfl rfl) rfl ?_
  refine zAf (zAd (hK23 _ _ ?_))
  refine zAz rfl rfl (fun h25 => ?_) (fun h25 => ?_)
  ·
   try simp only [zS] at h25
   refine zAg (fun K27 hK26 => ?_)
   refine zAb (w_p (zAc (v := _) rfl rfl) rfl ?_)
   refine zAf (zAd (hK26 _ _ ?_))
   refine zA2 (zAm (zA3 (l := [.tmp 4]) (vs := [_]) rfl ⟨⟨rfl, (rfl : _ = Value.int _ _)⟩, trivial⟩ ?_))
   exact ⟨congrArg (Value.int .i64) (by unfold cmpI; (repeat' split) <;> first | rfl | omega), hs12⟩
  try simp only [zS] at h25
  refine zAx (zAd (hK21 _ _ ?_))
  refine zAg (fun K29 hK28 => ?_)
  refine zAg (fun K31 hK30 => ?_)
  refine zAb (w_p (zAe (v := .int _ _) rfl rfl) rfl ?_)
  refine w_p (zAe (v := .int _ _) rfl rfl) rfl ?_
  refine w_p (y_gtr rfl rfl rfl rfl) rfl ?_
  refine zAf (zAd (hK30 _ _ ?_))
  refine zAz rfl rfl (fun h32 => ?_) (fun h32 => ?_)
  ·
   try simp only [zS] at h32
   refine zAg (fun K34 hK33 => ?_)
   refine zAb (w_p (zAc (v := _) rfl rfl) rfl ?_)
   refine zAf (zAd (hK33 _ _ ?_))
   refine zA2 (zAm (zA3 (l := [.tmp 4]) (vs := [_]) rfl ⟨⟨rfl, (rfl : _ = Value.int _ _)⟩, trivial⟩ ?_))
   exact ⟨congrArg (Value.int .i64) (by unfold cmpI; (repeat' split) <;> first | rfl | omega), hs12⟩
  try simp only [zS] at h32
  refine zAx (zAd (hK28 _ _ ?_))
  refine zAg (fun K36 hK35 => ?_)
  refine zAb (w_p (zAc (v := _) rfl rfl) rfl ?_)
  refine zAf (zAd (hK35 _ _ ?_))
  refine zA2 (zA3 (l := [.tmp 4]) (vs := [_]) rfl ⟨⟨rfl, (rfl : _ = Value.int _ _)⟩, trivial⟩ ?_)
  exact ⟨congrArg (Value.int .i64) (by unfold cmpI; (repeat' split) <;> first | rfl | omega), hs12⟩

theorem cmp_here {a b : List Int} {i : Nat} (h : a.take i = b.take i) (ha : i < a.length) (hb : i < b.length) (hne : ¬ cmpI a[i] b[i] = 0) : decide (0 < cmpI a[i] b[i]) = less b a := by
  have hn : a[i] ≠ b[i] := fun e => hne (by unfold cmpI; rw [e]; simp)
  rw [zDf h.symm hb ha (fun e => hn e.symm)]
  unfold cmpI
  rw [Bool.eq_iff_iff]
  simp only [decide_eq_true_eq]
  split
  · simp; omega
  · split <;> simp <;> omega
theorem cmp_zero {a b : Int} (h : cmpI a b = 0) : a = b := by
  unfold cmpI at h
  split at h
  · omega
  · split at h <;> omega
theorem c86 {w0 w : World} {F : List (Nat × Obj)} (aa ab : Option Addr) (a b : List Int) (ca cb : Nat) (hla : a.length ≤ 9223372036854775807) (hlb : b.length ≤ 9223372036854775807) (ha : Sl w0 F aa 1 (a.map fun x => [Value.int .i64 x])) (hb : Sl w0 F ab 1 (b.map fun x => [Value.int .i64 x])) (hs : St w0 w F) :
  Con Tryz.prog 86 [.slice aa a.length ca, .slice ab b.length cb] w fun v w' => (∃ z, v = .int .i64 z ∧ decide (0 < z) = less b a) ∧ St w0 w' F := by
  refine zAw (n := 36) func86 rfl rfl (Nat.le_of_ble_eq_true rfl) ?_
  refine zAg (fun K2 hK1 => ?_)
  refine zAb (w_p (zAc (v := _) rfl rfl) rfl ?_)
  refine zAf (zAd (hK1 _ _ ?_))
  refine zAg (fun K4 hK3 => ?_)
  refine zAg (fun K6 hK5 => ?_)
  refine zAb (w_p (zAe (v := .slice _ _ _) rfl rfl) rfl ?_)
  refine w_p (zBd underlying43 rfl rfl) rfl ?_
  refine w_p (zAe (v := _) rfl rfl) rfl ?_
  refine zAf (zAd (hK5 _ _ ?_))
  refine zAy ?_
  refine zBp [4, 5, 6, 7, 8, 11, 12, 13, 14, 15, 16, 17, 18, 19, 20, 21, 22, 23, 24, 25, 26, 27, 28, 29, 30] [11] (fun k vs w => ∃ i : Nat, vs = [.int .i64 i] ∧ i ≤ a.length ∧ i ≤ b.length ∧ k = a.length - i ∧ a.take i = b.take i ∧ St w0 w F) (a.length) ?_ ?_
  ·
   exact ⟨0, rfl, by omega, by omega, by omega, rfl, hs⟩
  intro k vs μ w9 hI K8 hN7
  obtain ⟨i, rfl, hia, hib, rfl, hpre, hs⟩ := hI
  refine zAg (fun K11 hK10 => ?_)
  refine zAb (w_p (zBt rfl rfl rfl rfl) rfl ?_)
  refine zAf (zAd (hK10 _ _ ?_))
  refine zAg (fun K13 hK12 => ?_)
  refine zAz rfl rfl (fun h14 => ?_) (fun h14 => ?_)
  ·
   try simp only [zS] at h14
   refine zAx (zAd (hK12 _ _ ?_))
   refine zAg (fun K16 hK15 => ?_)
   refine zAy ?_
   refine zAg (fun K18 hK17 => ?_)
   have hia2 : i < a.length := by omega
   obtain ⟨ba, oa, rfl, hxa⟩ := zC1 ha hia2
   refine zAb (w_p (zAe (v := .int _ _) rfl rfl) rfl ?_)
   refine w_p (zA7 underlying43 sizeOf3 rfl rfl rfl rfl (i := _) rfl (by omega)) rfl ?_
   refine w_p (zAk isAgg3 hs rfl rfl hxa) rfl ?_
   refine w_p (zAc (v := .int _ _) rfl rfl) rfl ?_
   refine w_p (zAc (v := .int _ _) rfl rfl) rfl ?_
   refine zAf (zAd (hK17 _ _ ?_))
   refine zAg (fun K20 hK19 => ?_)
   refine zAg (fun K22 hK21 => ?_)
   refine zAb (w_p (zAe (v := .int _ _) rfl rfl) rfl ?_)
   refine w_p (zAe (v := .slice _ _ _) rfl rfl) rfl ?_
   refine w_p (zBd underlying43 rfl rfl) rfl ?_
   refine w_p (y_geq rfl rfl rfl rfl) rfl ?_
   refine zAf (zAd (hK21 _ _ ?_))
   refine zAz rfl rfl (fun h23 => ?_) (fun h23 => ?_)
   ·
    try simp only [zS] at h23
    refine zAg (fun K25 hK24 => ?_)
    refine zAb (w_p (zAc (v := _) rfl rfl) rfl ?_)
    refine zAf (zAd (hK24 _ _ ?_))
    refine zA2 (zAm (zA1 (zAm (zAm (zA1 (zAm (zA3 (l := [.tmp 4]) (vs := [_]) rfl ⟨⟨rfl, (rfl : _ = Value.int _ _)⟩, trivial⟩ ?_)))))))
    first
      | exact ⟨⟨_, rfl, cmp_here hpre hia2 hib2 (by assumption)⟩, hs⟩
      | exact ⟨⟨_, rfl, by rw [zCd hpre.symm (by omega) (by omega)]; rfl⟩, hs⟩
      | exact ⟨⟨_, rfl, by rw [zCz hpre.symm hib (by omega)]; rfl⟩, hs⟩
   try simp only [zS] at h23
   refine zAx (zAd (hK19 _ _ ?_))
   refine zAg (fun K27 hK26 => ?_)
   have hib2 : i < b.length := by omega
   obtain ⟨bb, ob, rfl, hxb⟩ := zC1 hb hib2
   refine zAb (w_p (zAe (v := .slice _ _ _) rfl rfl) rfl ?_)
   refine w_p (zAe (v := .int _ _) rfl rfl) rfl ?_
   refine w_p (zA7 underlying43 sizeOf3 rfl rfl rfl rfl (i := _) rfl (by omega)) rfl ?_
   refine w_p (zAk isAgg3 hs rfl rfl hxb) rfl ?_
   refine w_p (zAc (v := .int _ _) rfl rfl) rfl ?_
   refine zAf (zAd (hK26 _ _ ?_))
   refine zAg (fun K29 hK28 => ?_)
   refine zAb (w_p (zAe (v := .int _ _) rfl rfl) rfl ?_)
   refine w_p (zAe (v := .int _ _) rfl rfl) rfl ?_
   refine zAt zAa call108 rfl rfl rfl rfl (c108 _ _ hs) ?_
   rintro _ w31 ⟨rfl, hs32⟩
   refine w_p (zAc (v := .int _ _) rfl rfl) rfl ?_
   refine zAf (zAd (hK28 _ _ ?_))
   refine zAg (fun K34 hK33 => ?_)
   refine zAb (w_p (zAe (v := .int _ _) rfl rfl) rfl ?_)
   refine w_p (zCc rfl rfl rfl rfl) rfl ?_
   refine zAf (zAd (hK33 _ _ ?_))
   refine zAz rfl rfl (fun h35 => ?_) (fun h35 => ?_)
   ·
    try simp only [zS] at h35
    refine zAg (fun K37 hK36 => ?_)
    refine zAb (w_p (zAe (v := .int _ _) rfl rfl) rfl ?_)
    refine w_p (zAc (v := .int _ _) rfl rfl) rfl ?_
    refine zAf (zAd (hK36 _ _ ?_))
    refine zA2 (zA1 (zAm (zAm (zA1 (zAm (zA3 (l := [.tmp 4]) (vs := [_]) rfl ⟨⟨rfl, (rfl : _ = Value.int _ _)⟩, trivial⟩ ?_))))))
    first
      | exact ⟨⟨_, rfl, cmp_here hpre hia2 hib2 (by assumption)⟩, hs32⟩
      | exact ⟨⟨_, rfl, by rw [zCd hpre.symm (by omega) (by omega)]; rfl⟩, hs32⟩
      | exact ⟨⟨_, rfl, by rw [zCz hpre.symm hib (by omega)]; rfl⟩, hs32⟩
   try simp only [zS] at h35
   refine zAx (zAl (zAd (hK15 _ _ ?_)))
   refine zAb (w_p (zBf rfl rfl rfl rfl (by omega) (by omega)) rfl ?_)
   refine w_p (zAe (v := .int _ _) rfl rfl) rfl ?_
   refine zAf (zAd (hN7 _ _ (Nx.intro (a.length - (i + 1)) (by omega) (by repeat (first | exact zAv | refine zAu rfl ?_ | refine zAs rfl ?_ _ | refine zAr rfl ?_)) ?_)))
   exact ⟨i + 1, rfl, by omega, by omega, rfl, take_snoc_eq hpre (by omega) (by omega) (cmp_zero (by assumption)), hs32⟩
  try simp only [zS] at h14
  refine zBl (zAo (zAo (zA4 (zAd (hK3 _ _ ?_)))))
  refine zAg (fun K39 hK38 => ?_)
  refine zAg (fun K41 hK40 => ?_)
  refine zAb (w_p (zAe (v := .slice _ _ _) rfl rfl) rfl ?_)
  refine w_p (zBd underlying43 rfl rfl) rfl ?_
  refine w_p (zAe (v := .slice _ _ _) rfl rfl) rfl ?_
  refine w_p (zBd underlying43 rfl rfl) rfl ?_
  refine w_p (zBt rfl rfl rfl rfl) rfl ?_
  refine zAf (zAd (hK40 _ _ ?_))
  refine zAz rfl rfl (fun h42 => ?_) (fun h42 => ?_)
  ·
   try simp only [zS] at h42
   refine zAg (fun K44 hK43 => ?_)
   refine zAb (w_p (zAc (v := _) rfl rfl) rfl ?_)
   refine zAf (zAd (hK43 _ _ ?_))
   refine zA2 (zAm (zA3 (l := [.tmp 4]) (vs := [_]) rfl ⟨⟨rfl, (rfl : _ = Value.int _ _)⟩, trivial⟩ ?_))
   first
     | exact ⟨⟨_, rfl, cmp_here hpre hia2 hib2 (by assumption)⟩, hs⟩
     | exact ⟨⟨_, rfl, by rw [zCd hpre.symm (by omega) (by omega)]; rfl⟩, hs⟩
     | exact ⟨⟨_, rfl, by rw [zCz hpre.symm hib (by omega)]; rfl⟩, hs⟩
  try simp only [zS] at h42
  refine zAx (zAd (hK38 _ _ ?_))
  refine zAg (fun K46 hK45 => ?_)
  refine zAb (w_p (zAc (v := _) rfl rfl) rfl ?_)
  refine zAf (zAd (hK45 _ _ ?_))
  refine zA2 (zA3 (l := [.tmp 4]) (vs := [_]) rfl ⟨⟨rfl, (rfl : _ = Value.int _ _)⟩, trivial⟩ ?_)
  first
    | exact ⟨⟨_, rfl, cmp_here hpre hia2 hib2 (by assumption)⟩, hs⟩
    | exact ⟨⟨_, rfl, by rw [zCd hpre.symm (by omega) (by omega)]; rfl⟩, hs⟩
    | exact ⟨⟨_, rfl, by rw [zCz hpre.symm hib (by omega)]; rfl⟩, hs⟩

def maxTo (l : List Int) : Nat → Int
  | 0 => l.getD 0 0
  | n + 1 => max (maxTo l n) (l.getD (n + 1) 0)
theorem c65 {w0 w : World} {F : List (Nat × Obj)} (aa : Option Addr) (l : List Int) (ca : Nat) (h0 : 0 < l.length) (hl : l.length ≤ 1000) (ha : Sl w0 F aa 1 (l.map fun x => [Value.int .i64 x])) (hs : St w0 w F) :
  Con Tryz.prog 65 [.slice aa l.length ca] w fun v w' => v = .int .i64 (maxTo l (l.length - 1)) ∧ St w0 w' F := by
  refine zAw (n := 25) func65 rfl rfl (Nat.le_of_ble_eq_true rfl) ?_
  have hg : ∀ i (h : i < l.length), l[i] = l.getD i 0 := fun i h => by simp [List.getD, h]
  obtain ⟨b0, o0, rfl, hx0⟩ := zC1 ha h0
  refine zAg (fun K2 hK1 => ?_)
  refine zAb (w_p (zAc (v := _) rfl rfl) rfl ?_)
  refine zAf (zAd (hK1 _ _ ?_))
  refine zAg (fun K4 hK3 => ?_)
  refine zAg (fun K6 hK5 => ?_)
  refine zAb (w_p (zAe (v := .slice _ _ _) rfl rfl) rfl ?_)
  refine w_p (zBd underlying43 rfl rfl) rfl ?_
  refine w_p (zBt rfl rfl rfl rfl) rfl ?_
  refine zAf (zAd (hK5 _ _ ?_))
  refine zAz rfl rfl (fun h7 => ?_) (fun h7 => ?_)
  ·
   exfalso
   try simp only [zS] at h7
   omega
  try simp only [zS] at h7
  refine zAx (zAd (hK3 _ _ ?_))
  refine zAg (fun K9 hK8 => ?_)
  refine zAb (w_p (zAe (v := .slice _ _ _) rfl rfl) rfl ?_)
  refine w_p (zA7 underlying43 sizeOf3 rfl rfl rfl rfl (i := 0) rfl (by omega)) rfl ?_
  refine w_p (zAk isAgg3 hs rfl rfl hx0) rfl ?_
  refine w_p (zAc (v := .int _ _) rfl rfl) rfl ?_
  refine zAf (zAd (hK8 _ _ ?_))
  refine zAg (fun K11 hK10 => ?_)
  refine zAg (fun K13 hK12 => ?_)
  refine zAb (w_p (zAc (v := _) rfl rfl) rfl ?_)
  refine zAf (zAd (hK12 _ _ ?_))
  refine zAy ?_
  refine zBp [3, 4, 12, 13, 14, 15, 16, 17, 18, 19, 20, 21, 22, 23] [3, 4] (fun k vs w => ∃ i : Nat, vs = [.int .i64 (maxTo l i), .int .i64 ((i : Int) + 1)] ∧ i + 1 ≤ l.length ∧ k = l.length - i ∧ St w0 w F) (l.length) ?_ ?_
  ·
   exact ⟨0, iv2 (hg 0 h0) rfl, by omega, by omega, hs⟩
  intro k vs μ w16 hI K15 hN14
  obtain ⟨i, rfl, hia, rfl, hs⟩ := hI
  refine zAg (fun K18 hK17 => ?_)
  refine zAg (fun K20 hK19 => ?_)
  refine zAb (w_p (zAe (v := .int _ _) rfl rfl) rfl ?_)
  refine w_p (zAe (v := .slice _ _ _) rfl rfl) rfl ?_
  refine w_p (zBd underlying43 rfl rfl) rfl ?_
  refine w_p (zBt rfl rfl rfl rfl) rfl ?_
  refine zAf (zAd (hK19 _ _ ?_))
  refine zAz rfl rfl (fun h21 => ?_) (fun h21 => ?_)
  ·
   try simp only [zS] at h21
   refine zAx (zAd (hK17 _ _ ?_))
   refine zAg (fun K23 hK22 => ?_)
   refine zAy ?_
   have hi2 : i + 1 < l.length := by omega
   obtain ⟨b1, o1, hb1, hx1⟩ := zC1 ha hi2
   cases hb1
   refine zAb (w_p (zAe (v := .int _ _) rfl rfl) rfl ?_)
   refine w_p (zAe (v := .slice _ _ _) rfl rfl) rfl ?_
   refine w_p (zAe (v := .int _ _) rfl rfl) rfl ?_
   refine w_p (zA7 underlying43 sizeOf3 rfl rfl rfl rfl (i := i + 1) (by omega) (by omega)) rfl ?_
   refine w_p (zAk isAgg3 hs rfl rfl hx1) rfl ?_
   refine w_p (y_max2 rfl rfl rfl rfl) rfl ?_
   refine w_p (zAc (v := .int _ _) rfl rfl) rfl ?_
   refine zAf (zAl (zAd (hK22 _ _ ?_)))
   refine zAb (w_p (zAe (v := .int _ _) rfl rfl) rfl ?_)
   refine w_p (zBf rfl rfl rfl rfl (by omega) (by omega)) rfl ?_
   refine w_p (zAc (v := .int _ _) rfl rfl) rfl ?_
   refine zAf (zAd (hN14 _ _ (Nx.intro (l.length - (i + 1)) (by omega) (by repeat (first | exact zAv | refine zAu rfl ?_ | refine zAs rfl ?_ _ | refine zAr rfl ?_)) ?_)))
   exact ⟨i + 1, iv2 (by rw [hg]; rfl) (by omega), by omega, rfl, hs⟩
  try simp only [zS] at h21
  refine zBl (zAo (zAo (zA4 (zAd (hK10 _ _ ?_)))))
  refine zAg (fun K25 hK24 => ?_)
  refine zAb (w_p (zAe (v := .int _ _) rfl rfl) rfl ?_)
  refine w_p (zAc (v := .int _ _) rfl rfl) rfl ?_
  refine zAf (zAd (hK24 _ _ ?_))
  refine zA2 (zA3 (l := [.tmp 2]) (vs := [_]) rfl ⟨⟨rfl, (rfl : _ = Value.int _ _)⟩, trivial⟩ ?_)
  have hil : i = l.length - 1 := by omega
  subst hil
  exact ⟨rfl, hs⟩

theorem zC5 {d : Nat → Bool} {n s : Nat} (h1 : (fewTo d n s).2 = true) (h2 : before (fewTo d n s).1 (listL s n) = true) : fewTo d n (s + 1) = fewTo d n s := by simp only [fewTo, fewStep]; rw [h1, h2]; rfl
theorem few_yes {d : Nat → Bool} {n s : Nat} (h1 : (fewTo d n s).2 = false ∨ before (fewTo d n s).1 (listL s n) = false) (h2 : d s = true) : fewTo d n (s + 1) = (listL s n, true) := by
  simp only [fewTo, fewStep]; rw [if_neg (by rcases h1 with h | h <;> simp [h]), if_pos h2]
theorem few_no {d : Nat → Bool} {n s : Nat} (h1 : (fewTo d n s).2 = false ∨ before (fewTo d n s).1 (listL s n) = false) (h2 : d s = false) : fewTo d n (s + 1) = fewTo d n s := by
  simp only [fewTo, fewStep]; rw [if_neg (by rcases h1 with h | h <;> simp [h]), if_neg (by simp [h2])]
theorem few_len (d : Nat → Bool) (n : Nat) : ∀ s, (fewTo d n s).1.length ≤ n
  | 0 => by simp [fewTo]
  | s + 1 => by have := few_len d n s; have := listL_le s n; simp only [fewTo, fewStep]; split <;> (try split) <;> assumption
theorem zBv {v1 v2 : Value} {b1 b2 : Bool} {z1 z2 : Int} (h1 : v1 = v2) (h2 : b1 = b2) (h3 : z1 = z2) : [v1, Value.bool b1, Value.int .i64 z1] = [v2, Value.bool b2, Value.int .i64 z2] := by rw [h1, h2, h3]
theorem zBn {a b : List Int} (h1 : a.length ≤ b.length → ¬ (b.length : Int) > a.length) (h2 : a.length = b.length → less a b = false) : before a b = false := by
  unfold before
  rw [Bool.or_eq_false_iff, Bool.and_eq_false_iff]
  refine ⟨by simp; omega, ?_⟩
  by_cases e : a.length = b.length
  · exact .inr (h2 e)
  · left; simpa using e
theorem shl_lt64 {n : Nat} (h : n ≤ 6) : 1 ≤ 1 <<< n ∧ 1 <<< n ≤ 64 := (pow_le n h).2
theorem c63 {w0 w : World} {F : List (Nat × Obj)} (n : Nat) (hn : n ≤ 6) (fv : Value) (d : Nat → Bool) (hd : ∀ (b : Nat) (X : List (Nat × Obj)) (w : World), b < 1 <<< n → St w0 w (X ++ F) → FCon Tryz.prog fv [.int .i64 (b : Int)] w fun v w' => v = .bool (d b) ∧ ∃ Y, St w0 w' (Y ++ (X ++ F))) (hs : St w0 w F) :
  Con Tryz.prog 63 [.int .i64 (n : Int), fv] w fun v w' => ∃ B a c, v = .tuple #[.slice a (fewest d n).1.length c, .bool (fewest d n).2] ∧ Sl w0 B a 1 ((fewest d n).1.map fun x => [Value.int .i64 x]) ∧ St w0 w' (B ++ F) := by
  refine zAw (n := 44) func63 rfl rfl (Nat.le_of_ble_eq_true rfl) ?_
  have hsh := shl_lt64 hn
  refine zAg (fun K2 hK1 => ?_)
  refine zAb (w_p (zAc (v := _) rfl rfl) rfl ?_)
  refine w_p (zAc (v := _) rfl rfl) rfl ?_
  refine zAf (zAd (hK1 _ _ ?_))
  refine zAg (fun K4 hK3 => ?_)
  refine zAg (fun K6 hK5 => ?_)
  refine zAb (w_p (zAe (v := .int _ _) rfl rfl) rfl ?_)
  refine w_p (y_shl (x := 1) (y := n) rfl rfl rfl rfl rfl (by first | rfl | omega) (by first | omega | exact zB8 (by omega)) (by first | omega | exact zB8 (by omega))) rfl ?_
  refine w_p (zAe (v := _) rfl rfl) rfl ?_
  refine zAf (zAd (hK5 _ _ ?_))
  refine zAy ?_
  refine zBp [4, 5, 6, 7, 10, 11, 12, 13, 14, 15, 16, 17, 18, 19, 20, 21, 22, 23, 24, 25, 26, 27, 28, 29, 30, 31, 32, 33, 34, 35, 36, 37, 38, 39, 40, 41] [4, 5, 10] (fun k vs w => ∃ (s : Nat) (av : Option Addr) (cv : Nat) (B : List (Nat × Obj)), vs = [.slice av (fewTo d n s).1.length cv, .bool (fewTo d n s).2, .int .i64 s] ∧ s ≤ 1 <<< n ∧ k = (1 <<< n) - s ∧ Sl w0 B av 1 ((fewTo d n s).1.map fun x => [Value.int .i64 x]) ∧ St w0 w (B ++ F)) (1 <<< n) ?_ ?_
  ·
   exact ⟨0, _, _, [], rfl, by omega, by omega, Sl.nil _ _, hs⟩
  intro k vs μ w9 hI K8 hN7
  obtain ⟨s, av, cv, B, rfl, hba, rfl, hslv, hs⟩ := hI
  generalize hfd : (fewTo d n s).2 = fd
  refine zAg (fun K11 hK10 => ?_)
  refine zAb (w_p (zBt rfl rfl rfl rfl) rfl ?_)
  refine zAf (zAd (hK10 _ _ ?_))
  refine zAg (fun K13 hK12 => ?_)
  refine zAz rfl rfl (fun h14 => ?_) (fun h14 => ?_)
  ·
   try simp only [zS] at h14
   refine zAx (zAd (hK12 _ _ ?_))
   refine zAg (fun K16 hK15 => ?_)
   refine zAy ?_
   refine zAg (fun K18 hK17 => ?_)
   refine zAb (w_p (zAe (v := .int _ _) rfl rfl) rfl ?_)
   refine w_p (zAc (v := .int _ _) rfl rfl) rfl ?_
   refine zAf (zAd (hK17 _ _ ?_))
   refine zAg (fun K20 hK19 => ?_)
   refine zAb (w_p (zAe (v := .int _ _) rfl rfl) rfl ?_)
   refine w_p (zAe (v := .int _ _) rfl rfl) rfl ?_
   refine zAt zAa call59 rfl rfl rfl rfl (c59 _ _ (by omega) (by omega) hs) ?_
   rintro _ w22 ⟨B1, hown1, hs23⟩
   replace hs23 := (show St _ _ (B1 ++ (B ++ (F))) from hs23)
   obtain ⟨a1, c1, rfl, hsl1, _, _⟩ := own_ints (w0 := w0) hown1
   have hle1 := listL_le s n
   have hle2 := few_len d n s
   refine w_p (zAc (v := .slice _ _ _) rfl rfl) rfl ?_
   refine zAf (zAd (hK19 _ _ ?_))
   refine zAg (fun K25 hK24 => ?_)
   refine zAg (fun K27 hK26 => ?_)
   refine zAb (w_p (zAe (v := .bool _) rfl rfl) rfl ?_)
   refine w_p (zAe (v := .bool _) rfl rfl) rfl ?_
   refine zBi (fun h28 => ?_) (fun h28 => ?_)
   ·
    subst h28
    refine w_y rfl rfl rfl (zAe (v := .slice _ _ _) rfl rfl) rfl ?_
    refine w_y rfl rfl rfl (zBd underlying43 rfl rfl) rfl ?_
    refine w_y rfl rfl rfl (zAe (v := .slice _ _ _) rfl rfl) rfl ?_
    refine w_y rfl rfl rfl (zBd underlying43 rfl rfl) rfl ?_
    refine w_y rfl rfl rfl (y_gtr rfl rfl rfl rfl) rfl ?_
    refine w_y rfl rfl rfl (zAe (v := .bool _) rfl rfl) rfl ?_
    refine zBi (fun h29 => ?_) (fun h29 => ?_)
    ·
     try simp only [zS] at h29
     refine zAi rfl rfl rfl ?_
     refine zAi rfl rfl rfl ?_
     refine zAi rfl rfl rfl ?_
     refine zAi rfl rfl rfl ?_
     refine zAi rfl rfl rfl ?_
     refine zAi rfl rfl rfl ?_
     refine zBc rfl rfl rfl ?_
     refine zBc rfl rfl rfl ?_
     refine zBc rfl rfl rfl ?_
     refine zBc rfl rfl rfl ?_
     refine zAi rfl rfl rfl ?_
     refine w_y rfl rfl rfl (zA0 (v := _) rfl rfl rfl rfl) rfl ?_
     refine w_p (zA0 (v := .bool _) rfl rfl rfl rfl) rfl ?_
     refine zAf (zAd (hK26 _ _ ?_))
     refine zCg rfl rfl ?_
     refine zBl (zAo (zA4 (zAd (hK15 _ _ ?_))))
     refine zAb (w_p (zBf rfl rfl rfl rfl (by omega) (by omega)) rfl ?_)
     refine w_p (zAe (v := .int _ _) rfl rfl) rfl ?_
     refine zAf (zAd (hN7 _ _ (Nx.intro ((1 <<< n) - (s + 1)) (by omega) (by repeat (first | exact zAv | refine zAu rfl ?_ | refine zAs rfl ?_ _ | refine zAr rfl ?_)) ?_)))
     first
       | (have hq := zC5 hfd (by unfold before; simp; omega)
          exact ⟨s + 1, av, cv, B1 ++ B, zBv (by rw [hq] <;> rfl) (by rw [hq, hfd] <;> rfl) rfl, by omega, rfl, by rw [hq]; exact hslv.app, (by rw [List.append_assoc]; exact hs23)⟩)
       | (have hq := zC5 hfd (by unfold before; rw [Bool.or_eq_true, Bool.and_eq_true]; exact .inr ⟨by simp; omega, by rw [← hz]; simp; omega⟩)
          exact ⟨s + 1, av, cv, B1 ++ B, zBv (by rw [hq] <;> rfl) (by rw [hq, hfd] <;> rfl) rfl, by omega, rfl, by rw [hq]; exact hslv.app, (by rw [List.append_assoc]; exact hs23)⟩)
       | (have hq := few_yes (d := d) (n := n) (s := s) (by first | exact .inl hfd | exact .inr (zBn (by omega) (by omega)) | exact .inr (zBn (by omega) (fun e => by rw [← hz]; exact decide_eq_false (by omega)))) (by assumption)
          exact ⟨s + 1, a1, c1, B1 ++ B, zBv (by rw [hq] <;> rfl) (by rw [hq] <;> rfl) rfl, by omega, rfl, by rw [hq]; exact hsl1.top, (by rw [List.append_assoc]; exact hs23.drop)⟩)
       | (have hq := few_no (d := d) (n := n) (s := s) (by first | exact .inl hfd | exact .inr (zBn (by omega) (by omega)) | exact .inr (zBn (by omega) (fun e => by rw [← hz]; exact decide_eq_false (by omega)))) (by assumption)
          exact ⟨s + 1, av, cv, B1 ++ B, zBv (by rw [hq] <;> rfl) (by rw [hq, hfd] <;> rfl) rfl, by omega, rfl, by rw [hq]; exact hslv.app, (by rw [List.append_assoc]; exact hs23.drop)⟩)
    try simp only [zS] at h29
    refine w_y rfl rfl rfl (zAe (v := .slice _ _ _) rfl rfl) rfl ?_
    refine w_y rfl rfl rfl (zBd underlying43 rfl rfl) rfl ?_
    refine w_y rfl rfl rfl (zAe (v := .slice _ _ _) rfl rfl) rfl ?_
    refine w_y rfl rfl rfl (zBd underlying43 rfl rfl) rfl ?_
    refine w_y rfl rfl rfl (zBy rfl rfl rfl rfl) rfl ?_
    refine w_y rfl rfl rfl (zAe (v := .bool _) rfl rfl) rfl ?_
    refine zBi (fun h30 => ?_) (fun h30 => ?_)
    ·
     try simp only [zS] at h30
     refine w_y rfl rfl rfl (zAe (v := .slice _ _ _) rfl rfl) rfl ?_
     refine w_y rfl rfl rfl (zAe (v := .slice _ _ _) rfl rfl) rfl ?_
     refine zAt (zAn rfl rfl rfl) call86 rfl rfl rfl rfl (c86 _ _ _ _ _ _ (by omega) (by omega) hsl1.top hslv.top.app hs23) ?_
     rintro _ w32 ⟨⟨z, rfl, hz⟩, hs33⟩
     refine w_y rfl rfl rfl (y_gtr rfl rfl rfl rfl) rfl ?_
     refine w_y rfl rfl rfl (zA0 (v := .bool _) rfl rfl rfl rfl) rfl ?_
     refine w_y rfl rfl rfl (zBb (v := .bool _) rfl rfl rfl rfl) rfl ?_
     refine w_p (zA0 (v := .bool _) rfl rfl rfl rfl) rfl ?_
     refine zAf (zAd (hK26 _ _ ?_))
     refine zAz rfl rfl (fun h34 => ?_) (fun h34 => ?_)
     ·
      try simp only [zS] at h34
      refine zBl (zAo (zA4 (zAd (hK15 _ _ ?_))))
      refine zAb (w_p (zBf rfl rfl rfl rfl (by omega) (by omega)) rfl ?_)
      refine w_p (zAe (v := .int _ _) rfl rfl) rfl ?_
      refine zAf (zAd (hN7 _ _ (Nx.intro ((1 <<< n) - (s + 1)) (by omega) (by repeat (first | exact zAv | refine zAu rfl ?_ | refine zAs rfl ?_ _ | refine zAr rfl ?_)) ?_)))
      first
        | (have hq := zC5 hfd (by unfold before; simp; omega)
           exact ⟨s + 1, av, cv, B1 ++ B, zBv (by rw [hq] <;> rfl) (by rw [hq, hfd] <;> rfl) rfl, by omega, rfl, by rw [hq]; exact hslv.app, (by rw [List.append_assoc]; exact hs33)⟩)
        | (have hq := zC5 hfd (by unfold before; rw [Bool.or_eq_true, Bool.and_eq_true]; exact .inr ⟨by simp; omega, by rw [← hz]; simp; omega⟩)
           exact ⟨s + 1, av, cv, B1 ++ B, zBv (by rw [hq] <;> rfl) (by rw [hq, hfd] <;> rfl) rfl, by omega, rfl, by rw [hq]; exact hslv.app, (by rw [List.append_assoc]; exact hs33)⟩)
        | (have hq := few_yes (d := d) (n := n) (s := s) (by first | exact .inl hfd | exact .inr (zBn (by omega) (by omega)) | exact .inr (zBn (by omega) (fun e => by rw [← hz]; exact decide_eq_false (by omega)))) (by assumption)
           exact ⟨s + 1, a1, c1, B1 ++ B, zBv (by rw [hq] <;> rfl) (by rw [hq] <;> rfl) rfl, by omega, rfl, by rw [hq]; exact hsl1.top, (by rw [List.append_assoc]; exact hs33.drop)⟩)
        | (have hq := few_no (d := d) (n := n) (s := s) (by first | exact .inl hfd | exact .inr (zBn (by omega) (by omega)) | exact .inr (zBn (by omega) (fun e => by rw [← hz]; exact decide_eq_false (by omega)))) (by assumption)
           exact ⟨s + 1, av, cv, B1 ++ B, zBv (by rw [hq] <;> rfl) (by rw [hq, hfd] <;> rfl) rfl, by omega, rfl, by rw [hq]; exact hslv.app, (by rw [List.append_assoc]; exact hs33.drop)⟩)
     try simp only [zS] at h34
     refine zAx (zAd (hK24 _ _ ?_))
     refine zAg (fun K36 hK35 => ?_)
     refine zAb (w_p (zAe (v := fv) rfl rfl) rfl ?_)
     refine w_p (zAe (v := .int _ _) rfl rfl) rfl ?_
     refine w_callV zAa rfl rfl rfl rfl (hd s (B1 ++ B) _ (by omega) (St.cast (by simp only [List.append_assoc]) hs33)) ?_
     rintro _ w38 ⟨rfl, Y, hs39⟩
     replace hs39 := (show St _ _ (Y ++ ((B1 ++ B) ++ F)) from hs39)
     rw [List.append_assoc] at hs39
     refine zAf (zAd (hK35 _ _ ?_))
     refine zAz rfl rfl (fun h40 => ?_) (fun h40 => ?_)
     ·
      try simp only [zS] at h40
      refine zAb (w_p (zAe (v := .slice _ _ _) rfl rfl) rfl ?_)
      refine w_p (zAc (v := .slice _ _ _) rfl rfl) rfl ?_
      refine w_p (zAc (v := _) rfl rfl) rfl ?_
      refine zAf (zAl (zAd (hK15 _ _ ?_)))
      refine zAb (w_p (zBf rfl rfl rfl rfl (by omega) (by omega)) rfl ?_)
      refine w_p (zAe (v := .int _ _) rfl rfl) rfl ?_
      refine zAf (zAd (hN7 _ _ (Nx.intro ((1 <<< n) - (s + 1)) (by omega) (by repeat (first | exact zAv | refine zAu rfl ?_ | refine zAs rfl ?_ _ | refine zAr rfl ?_)) ?_)))
      first
        | (have hq := zC5 hfd (by unfold before; simp; omega)
           exact ⟨s + 1, av, cv, B1 ++ B, zBv (by rw [hq] <;> rfl) (by rw [hq, hfd] <;> rfl) rfl, by omega, rfl, by rw [hq]; exact hslv.app, (by rw [List.append_assoc]; exact hs39)⟩)
        | (have hq := zC5 hfd (by unfold before; rw [Bool.or_eq_true, Bool.and_eq_true]; exact .inr ⟨by simp; omega, by rw [← hz]; simp; omega⟩)
           exact ⟨s + 1, av, cv, B1 ++ B, zBv (by rw [hq] <;> rfl) (by rw [hq, hfd] <;> rfl) rfl, by omega, rfl, by rw [hq]; exact hslv.app, (by rw [List.append_assoc]; exact hs39)⟩)
        | (have hq := few_yes (d := d) (n := n) (s := s) (by first | exact .inl hfd | exact .inr (zBn (by omega) (by omega)) | exact .inr (zBn (by omega) (fun e => by rw [← hz]; exact decide_eq_false (by omega)))) (by assumption)
           exact ⟨s + 1, a1, c1, B1 ++ B, zBv (by rw [hq] <;> rfl) (by rw [hq] <;> rfl) rfl, by omega, rfl, by rw [hq]; exact hsl1.top, (by rw [List.append_assoc]; exact hs39.drop)⟩)
        | (have hq := few_no (d := d) (n := n) (s := s) (by first | exact .inl hfd | exact .inr (zBn (by omega) (by omega)) | exact .inr (zBn (by omega) (fun e => by rw [← hz]; exact decide_eq_false (by omega)))) (by assumption)
           exact ⟨s + 1, av, cv, B1 ++ B, zBv (by rw [hq] <;> rfl) (by rw [hq, hfd] <;> rfl) rfl, by omega, rfl, by rw [hq]; exact hslv.app, (by rw [List.append_assoc]; exact hs39.drop)⟩)
     try simp only [zS] at h40
     refine zAx (zAl (zAd (hK15 _ _ ?_)))
     refine zAb (w_p (zBf rfl rfl rfl rfl (by omega) (by omega)) rfl ?_)
     refine w_p (zAe (v := .int _ _) rfl rfl) rfl ?_
     refine zAf (zAd (hN7 _ _ (Nx.intro ((1 <<< n) - (s + 1)) (by omega) (by repeat (first | exact zAv | refine zAu rfl ?_ | refine zAs rfl ?_ _ | refine zAr rfl ?_)) ?_)))
     first
       | (have hq := zC5 hfd (by unfold before; simp; omega)
          exact ⟨s + 1, av, cv, B1 ++ B, zBv (by rw [hq] <;> rfl) (by rw [hq, hfd] <;> rfl) rfl, by omega, rfl, by rw [hq]; exact hslv.app, (by rw [List.append_assoc]; exact hs39)⟩)
       | (have hq := zC5 hfd (by unfold before; rw [Bool.or_eq_true, Bool.and_eq_true]; exact .inr ⟨by simp; omega, by rw [← hz]; simp; omega⟩)
          exact ⟨s + 1, av, cv, B1 ++ B, zBv (by rw [hq] <;> rfl) (by rw [hq, hfd] <;> rfl) rfl, by omega, rfl, by rw [hq]; exact hslv.app, (by rw [List.append_assoc]; exact hs39)⟩)
       | (have hq := few_yes (d := d) (n := n) (s := s) (by first | exact .inl hfd | exact .inr (zBn (by omega) (by omega)) | exact .inr (zBn (by omega) (fun e => by rw [← hz]; exact decide_eq_false (by omega)))) (by assumption)
          exact ⟨s + 1, a1, c1, B1 ++ B, zBv (by rw [hq] <;> rfl) (by rw [hq] <;> rfl) rfl, by omega, rfl, by rw [hq]; exact hsl1.top, (by rw [List.append_assoc]; exact hs39.drop)⟩)
       | (have hq := few_no (d := d) (n := n) (s := s) (by first | exact .inl hfd | exact .inr (zBn (by omega) (by omega)) | exact .inr (zBn (by omega) (fun e => by rw [← hz]; exact decide_eq_false (by omega)))) (by assumption)
          exact ⟨s + 1, av, cv, B1 ++ B, zBv (by rw [hq] <;> rfl) (by rw [hq, hfd] <;> rfl) rfl, by omega, rfl, by rw [hq]; exact hslv.app, (by rw [List.append_assoc]; exact hs39.drop)⟩)
    try simp only [zS] at h30
    refine zAi rfl rfl rfl ?_
    refine zAi rfl rfl rfl ?_
    refine zAi rfl rfl rfl ?_
    refine zAi rfl rfl rfl ?_
    refine w_y rfl rfl rfl (zBb (v := _) rfl rfl rfl rfl) rfl ?_
    refine w_y rfl rfl rfl (zBb (v := .bool _) rfl rfl rfl rfl) rfl ?_
    refine w_p (zA0 (v := .bool _) rfl rfl rfl rfl) rfl ?_
    refine zAf (zAd (hK26 _ _ ?_))
    refine zB0 rfl rfl ?_
    refine zAx (zAd (hK24 _ _ ?_))
    refine zAg (fun K42 hK41 => ?_)
    refine zAb (w_p (zAe (v := fv) rfl rfl) rfl ?_)
    refine w_p (zAe (v := .int _ _) rfl rfl) rfl ?_
    refine w_callV zAa rfl rfl rfl rfl (hd s (B1 ++ B) _ (by omega) (St.cast (by simp only [List.append_assoc]) hs23)) ?_
    rintro _ w44 ⟨rfl, Y, hs45⟩
    replace hs45 := (show St _ _ (Y ++ ((B1 ++ B) ++ F)) from hs45)
    rw [List.append_assoc] at hs45
    refine zAf (zAd (hK41 _ _ ?_))
    refine zAz rfl rfl (fun h46 => ?_) (fun h46 => ?_)
    ·
     try simp only [zS] at h46
     refine zAb (w_p (zAe (v := .slice _ _ _) rfl rfl) rfl ?_)
     refine w_p (zAc (v := .slice _ _ _) rfl rfl) rfl ?_
     refine w_p (zAc (v := _) rfl rfl) rfl ?_
     refine zAf (zAl (zAd (hK15 _ _ ?_)))
     refine zAb (w_p (zBf rfl rfl rfl rfl (by omega) (by omega)) rfl ?_)
     refine w_p (zAe (v := .int _ _) rfl rfl) rfl ?_
     refine zAf (zAd (hN7 _ _ (Nx.intro ((1 <<< n) - (s + 1)) (by omega) (by repeat (first | exact zAv | refine zAu rfl ?_ | refine zAs rfl ?_ _ | refine zAr rfl ?_)) ?_)))
     first
       | (have hq := zC5 hfd (by unfold before; simp; omega)
          exact ⟨s + 1, av, cv, B1 ++ B, zBv (by rw [hq] <;> rfl) (by rw [hq, hfd] <;> rfl) rfl, by omega, rfl, by rw [hq]; exact hslv.app, (by rw [List.append_assoc]; exact hs45)⟩)
       | (have hq := zC5 hfd (by unfold before; rw [Bool.or_eq_true, Bool.and_eq_true]; exact .inr ⟨by simp; omega, by rw [← hz]; simp; omega⟩)
          exact ⟨s + 1, av, cv, B1 ++ B, zBv (by rw [hq] <;> rfl) (by rw [hq, hfd] <;> rfl) rfl, by omega, rfl, by rw [hq]; exact hslv.app, (by rw [List.append_assoc]; exact hs45)⟩)
       | (have hq := few_yes (d := d) (n := n) (s := s) (by first | exact .inl hfd | exact .inr (zBn (by omega) (by omega)) | exact .inr (zBn (by omega) (fun e => by rw [← hz]; exact decide_eq_false (by omega)))) (by assumption)
          exact ⟨s + 1, a1, c1, B1 ++ B, zBv (by rw [hq] <;> rfl) (by rw [hq] <;> rfl) rfl, by omega, rfl, by rw [hq]; exact hsl1.top, (by rw [List.append_assoc]; exact hs45.drop)⟩)
       | (have hq := few_no (d := d) (n := n) (s := s) (by first | exact .inl hfd | exact .inr (zBn (by omega) (by omega)) | exact .inr (zBn (by omega) (fun e => by rw [← hz]; exact decide_eq_false (by omega)))) (by assumption)
          exact ⟨s + 1, av, cv, B1 ++ B, zBv (by rw [hq] <;> rfl) (by rw [hq, hfd] <;> rfl) rfl, by omega, rfl, by rw [hq]; exact hslv.app, (by rw [List.append_assoc]; exact hs45.drop)⟩)
    try simp only [zS] at h46
    refine zAx (zAl (zAd (hK15 _ _ ?_)))
    refine zAb (w_p (zBf rfl rfl rfl rfl (by omega) (by omega)) rfl ?_)
    refine w_p (zAe (v := .int _ _) rfl rfl) rfl ?_
    refine zAf (zAd (hN7 _ _ (Nx.intro ((1 <<< n) - (s + 1)) (by omega) (by repeat (first | exact zAv | refine zAu rfl ?_ | refine zAs rfl ?_ _ | refine zAr rfl ?_)) ?_)))
    first
      | (have hq := zC5 hfd (by unfold before; simp; omega)
         exact ⟨s + 1, av, cv, B1 ++ B, zBv (by rw [hq] <;> rfl) (by rw [hq, hfd] <;> rfl) rfl, by omega, rfl, by rw [hq]; exact hslv.app, (by rw [List.append_assoc]; exact hs45)⟩)
      | (have hq := zC5 hfd (by unfold before; rw [Bool.or_eq_true, Bool.and_eq_true]; exact .inr ⟨by simp; omega, by rw [← hz]; simp; omega⟩)
         exact ⟨s + 1, av, cv, B1 ++ B, zBv (by rw [hq] <;> rfl) (by rw [hq, hfd] <;> rfl) rfl, by omega, rfl, by rw [hq]; exact hslv.app, (by rw [List.append_assoc]; exact hs45)⟩)
      | (have hq := few_yes (d := d) (n := n) (s := s) (by first | exact .inl hfd | exact .inr (zBn (by omega) (by omega)) | exact .inr (zBn (by omega) (fun e => by rw [← hz]; exact decide_eq_false (by omega)))) (by assumption)
         exact ⟨s + 1, a1, c1, B1 ++ B, zBv (by rw [hq] <;> rfl) (by rw [hq] <;> rfl) rfl, by omega, rfl, by rw [hq]; exact hsl1.top, (by rw [List.append_assoc]; exact hs45.drop)⟩)
      | (have hq := few_no (d := d) (n := n) (s := s) (by first | exact .inl hfd | exact .inr (zBn (by omega) (by omega)) | exact .inr (zBn (by omega) (fun e => by rw [← hz]; exact decide_eq_false (by omega)))) (by assumption)
         exact ⟨s + 1, av, cv, B1 ++ B, zBv (by rw [hq] <;> rfl) (by rw [hq, hfd] <;> rfl) rfl, by omega, rfl, by rw [hq]; exact hslv.app, (by rw [List.append_assoc]; exact hs45.drop)⟩)
   subst h28
   refine zAi rfl rfl rfl ?_
   refine zAi rfl rfl rfl ?_
   refine zAi rfl rfl rfl ?_
   refine zAi rfl rfl rfl ?_
   refine zAi rfl rfl rfl ?_
   refine zAi rfl rfl rfl ?_
   refine zBc rfl rfl rfl ?_
   refine zBc rfl rfl rfl ?_
   refine zBc rfl rfl rfl ?_
   refine zBc rfl rfl rfl ?_
   refine zBc rfl rfl rfl ?_
   refine zBc rfl rfl rfl ?_
   refine zBc rfl rfl rfl ?_
   refine zBc rfl rfl rfl ?_
   refine zBc rfl rfl rfl ?_
   refine zBc rfl rfl rfl ?_
   refine zBc rfl rfl rfl ?_
   refine zAi rfl rfl rfl ?_
   refine w_p (zBb (v := _) rfl rfl rfl rfl) rfl ?_
   refine zAf (zAd (hK26 _ _ ?_))
   refine zB0 rfl rfl ?_
   refine zAx (zAd (hK24 _ _ ?_))
   refine zAg (fun K48 hK47 => ?_)
   refine zAb (w_p (zAe (v := fv) rfl rfl) rfl ?_)
   refine w_p (zAe (v := .int _ _) rfl rfl) rfl ?_
   refine w_callV zAa rfl rfl rfl rfl (hd s (B1 ++ B) _ (by omega) (St.cast (by simp only [List.append_assoc]) hs23)) ?_
   rintro _ w50 ⟨rfl, Y, hs51⟩
   replace hs51 := (show St _ _ (Y ++ ((B1 ++ B) ++ F)) from hs51)
   rw [List.append_assoc] at hs51
   refine zAf (zAd (hK47 _ _ ?_))
   refine zAz rfl rfl (fun h52 => ?_) (fun h52 => ?_)
   ·
    try simp only [zS] at h52
    refine zAb (w_p (zAe (v := .slice _ _ _) rfl rfl) rfl ?_)
    refine w_p (zAc (v := .slice _ _ _) rfl rfl) rfl ?_
    refine w_p (zAc (v := _) rfl rfl) rfl ?_
    refine zAf (zAl (zAd (hK15 _ _ ?_)))
    refine zAb (w_p (zBf rfl rfl rfl rfl (by omega) (by omega)) rfl ?_)
    refine w_p (zAe (v := .int _ _) rfl rfl) rfl ?_
    refine zAf (zAd (hN7 _ _ (Nx.intro ((1 <<< n) - (s + 1)) (by omega) (by repeat (first | exact zAv | refine zAu rfl ?_ | refine zAs rfl ?_ _ | refine zAr rfl ?_)) ?_)))
    first
      | (have hq := zC5 hfd (by unfold before; simp; omega)
         exact ⟨s + 1, av, cv, B1 ++ B, zBv (by rw [hq] <;> rfl) (by rw [hq, hfd] <;> rfl) rfl, by omega, rfl, by rw [hq]; exact hslv.app, (by rw [List.append_assoc]; exact hs51)⟩)
      | (have hq := zC5 hfd (by unfold before; rw [Bool.or_eq_true, Bool.and_eq_true]; exact .inr ⟨by simp; omega, by rw [← hz]; simp; omega⟩)
         exact ⟨s + 1, av, cv, B1 ++ B, zBv (by rw [hq] <;> rfl) (by rw [hq, hfd] <;> rfl) rfl, by omega, rfl, by rw [hq]; exact hslv.app, (by rw [List.append_assoc]; exact hs51)⟩)
      | (have hq := few_yes (d := d) (n := n) (s := s) (by first | exact .inl hfd | exact .inr (zBn (by omega) (by omega)) | exact .inr (zBn (by omega) (fun e => by rw [← hz]; exact decide_eq_false (by omega)))) (by assumption)
         exact ⟨s + 1, a1, c1, B1 ++ B, zBv (by rw [hq] <;> rfl) (by rw [hq] <;> rfl) rfl, by omega, rfl, by rw [hq]; exact hsl1.top, (by rw [List.append_assoc]; exact hs51.drop)⟩)
      | (have hq := few_no (d := d) (n := n) (s := s) (by first | exact .inl hfd | exact .inr (zBn (by omega) (by omega)) | exact .inr (zBn (by omega) (fun e => by rw [← hz]; exact decide_eq_false (by omega)))) (by assumption)
         exact ⟨s + 1, av, cv, B1 ++ B, zBv (by rw [hq] <;> rfl) (by rw [hq, hfd] <;> rfl) rfl, by omega, rfl, by rw [hq]; exact hslv.app, (by rw [List.append_assoc]; exact hs51.drop)⟩)
   try simp only [zS] at h52
   refine zAx (zAl (zAd (hK15 _ _ ?_)))
   refine zAb (w_p (zBf rfl rfl rfl rfl (by omega) (by omega)) rfl ?_)
   refine w_p (zAe (v := .int _ _) rfl rfl) rfl ?_
   refine zAf (zAd (hN7 _ _ (Nx.intro ((1 <<< n) - (s + 1)) (by omega) (by repeat (first | exact zAv | refine zAu rfl ?_ | refine zAs rfl ?_ _ | refine zAr rfl ?_)) ?_)))
   first
     | (have hq := zC5 hfd (by unfold before; simp; omega)
        exact ⟨s + 1, av, cv, B1 ++ B, zBv (by rw [hq] <;> rfl) (by rw [hq, hfd] <;> rfl) rfl, by omega, rfl, by rw [hq]; exact hslv.app, (by rw [List.append_assoc]; exact hs51)⟩)
     | (have hq := zC5 hfd (by unfold before; rw [Bool.or_eq_true, Bool.and_eq_true]; exact .inr ⟨by simp; omega, by rw [← hz]; simp; omega⟩)
        exact ⟨s + 1, av, cv, B1 ++ B, zBv (by rw [hq] <;> rfl) (by rw [hq, hfd] <;> rfl) rfl, by omega, rfl, by rw [hq]; exact hslv.app, (by rw [List.append_assoc]; exact hs51)⟩)
     | (have hq := few_yes (d := d) (n := n) (s := s) (by first | exact .inl hfd | exact .inr (zBn (by omega) (by omega)) | exact .inr (zBn (by omega) (fun e => by rw [← hz]; exact decide_eq_false (by omega)))) (by assumption)
        exact ⟨s + 1, a1, c1, B1 ++ B, zBv (by rw [hq] <;> rfl) (by rw [hq] <;> rfl) rfl, by omega, rfl, by rw [hq]; exact hsl1.top, (by rw [List.append_assoc]; exact hs51.drop)⟩)
     | (have hq := few_no (d := d) (n := n) (s := s) (by first | exact .inl hfd | exact .inr (zBn (by omega) (by omega)) | exact .inr (zBn (by omega) (fun e => by rw [← hz]; exact decide_eq_false (by omega)))) (by assumption)
        exact ⟨s + 1, av, cv, B1 ++ B, zBv (by rw [hq] <;> rfl) (by rw [hq, hfd] <;> rfl) rfl, by omega, rfl, by rw [hq]; exact hslv.app, (by rw [List.append_assoc]; exact hs51.drop)⟩)
  try simp only [zS] at h14
  refine zBl (zAo (zAo (zA4 (zAd (hK3 _ _ ?_)))))
  refine zAg (fun K54 hK53 => ?_)
  refine zAb (w_p (zAe (v := .slice _ _ _) rfl rfl) rfl ?_)
  refine w_p (zAe (v := .bool _) rfl rfl) rfl ?_
  refine w_p (zAc (v := .slice _ _ _) rfl rfl) rfl ?_
  refine w_p (zAc (v := .bool _) rfl rfl) rfl ?_
  refine zAf (zAd (hK53 _ _ ?_))
  refine zA2 (zA3 (l := [.tmp 4, .tmp 5]) (vs := [_, _]) rfl ⟨⟨rfl, show _ = (.slice _ _ _ : Value) from rfl⟩, ⟨rfl, (rfl : _ = Value.bool _)⟩, trivial⟩ ?_)
  have hin : s = 1 <<< n := by omega
  subst hin
  exact ⟨B, av, cv, by rw [← hfd]; rfl, hslv, hs⟩

end Go.Proofs.Hn
/- Plain words of the hand layer: sums of hands, step by step. No conditions. -/
namespace Go.Rt.Ha
theorem sums_a {l : Lot} {g : Nat} {h : List Int} {k : Nat} (e : gradesB l (bunchOf l k) (at_ h k) = 2 <<< g) : sumsTo l g h (k + 1) = ((sumsTo l g h k).1 + at_ h k, (sumsTo l g h k).2 + at_ h k) := by
  simp only [sumsTo]; rw [if_pos e]
theorem sums_b {l : Lot} {g : Nat} {h : List Int} {k : Nat} (e : ¬ gradesB l (bunchOf l k) (at_ h k) = 2 <<< g) (e2 : bit (gradesB l (bunchOf l k) (at_ h k)) (g + 1) = 1) : sumsTo l g h (k + 1) = ((sumsTo l g h k).1, (sumsTo l g h k).2 + at_ h k) := by
  simp only [sumsTo]; rw [if_neg e, if_pos e2]
theorem sums_c {l : Lot} {g : Nat} {h : List Int} {k : Nat} (e : ¬ gradesB l (bunchOf l k) (at_ h k) = 2 <<< g) (e2 : ¬ bit (gradesB l (bunchOf l k) (at_ h k)) (g + 1) = 1) : sumsTo l g h (k + 1) = sumsTo l g h k := by
  simp only [sumsTo]; rw [if_neg e, if_neg e2]
theorem sums_in {l : Lot} {g : Nat} {h : List Int} (hh : ∀ b, 0 ≤ at_ h b ∧ at_ h b ≤ 12) : ∀ k, 0 ≤ (sumsTo l g h k).1 ∧ (sumsTo l g h k).1 ≤ 12 * k ∧ 0 ≤ (sumsTo l g h k).2 ∧ (sumsTo l g h k).2 ≤ 12 * k
  | 0 => by simp [sumsTo]
  | k + 1 => by
    have ih := sums_in (l := l) (g := g) hh k
    have hx := hh k
    simp only [sumsTo]
    split
    · dsimp only; omega
    · split
      · (try dsimp only); omega
      · (try dsimp only); omega
theorem total_take {l : Lot} {g : Nat} {ws : List (List Int)} {i : Nat} (h : i < ws.length) : totalW l g (ws.take (i + 1)) = (min (totalW l g (ws.take i)).1 (sums l g ws[i]).1, max (totalW l g (ws.take i)).2 (sums l g ws[i]).2) := fold_take _ _ h
theorem someOf_snoc (h : List Int) (b : Int) : ∀ l, someOf h (l ++ [b]) = someOf h l + at_ h b.toNat
  | [] => by simp [someOf]
  | x :: l => by simp only [List.cons_append, someOf, someOf_snoc h b l]; omega
theorem someOf_in {h : List Int} (hh : ∀ b, 0 ≤ at_ h b ∧ at_ h b ≤ 12) : ∀ l, 0 ≤ someOf h l ∧ someOf h l ≤ 12 * l.length
  | [] => by simp [someOf]
  | x :: l => by
    have ih := someOf_in hh l
    have hx := hh x.toNat
    simp only [someOf, List.length_cons]; omega
theorem listL_in (b : Nat) : ∀ n, ∀ z ∈ listL b n, 0 ≤ z ∧ z < n
  | 0, z, hz => by simp [listL] at hz
  | n + 1, z, hz => by
    simp only [listL, List.mem_append] at hz
    rcases hz with hz | hz
    · have := listL_in b n z hz; omega
    · split at hz <;> simp at hz
      omega
theorem all_take {ws : List (List Int)} {q : List Int → Bool} {i : Nat} (hi : i < ws.length) (h : (ws.take i).all q = true) (hq : q ws[i] = true) : (ws.take (i + 1)).all q = true := by
  rw [List.take_succ_eq_append_getElem hi, List.all_append, h]; simp [hq]
theorem all_not {ws : List (List Int)} {q : List Int → Bool} {i : Nat} (hi : i < ws.length) (hq : q ws[i] = false) : ws.all q = false := by
  rw [List.all_eq_false]; exact ⟨_, List.getElem_mem hi, by simp [hq]⟩
/-! ### How often -/
def oftL (b : Nat) (ws : List (List Int)) : List Int := (List.range 13).map fun n : Nat => often b (n : Int) ws
theorem oft_len (b : Nat) (ws : List (List Int)) : (oftL b ws).length = 13 := by simp [oftL]
theorem often_in (b : Nat) (n : Int) (ws : List (List Int)) : 0 ≤ often b n ws ∧ often b n ws ≤ ws.length := by
  unfold often; have := List.length_filter_le (fun h => decide (at_ h b = n)) ws; omega
theorem oft_get {b : Nat} {ws : List (List Int)} {j : Nat} (hj : j < 13) : (oftL b ws).getD j 0 = often b (j : Int) ws := by simp [oftL, List.getD, hj]
theorem often_take {b : Nat} {n : Int} {ws : List (List Int)} {i : Nat} (h : i < ws.length) : often b n (ws.take (i + 1)) = often b n (ws.take i) + if at_ ws[i] b = n then 1 else 0 := by
  unfold often
  rw [List.take_succ_eq_append_getElem h, List.filter_append, List.length_append]
  by_cases e : at_ ws[i] b = n <;> simp [e]
theorem oft_take {b : Nat} {ws : List (List Int)} {i j : Nat} (h : i < ws.length) (hj : at_ ws[i] b = (j : Int)) (h13 : j < 13) : (oftL b (ws.take i)).set j ((oftL b (ws.take i)).getD j 0 + 1) = oftL b (ws.take (i + 1)) := by
  apply List.ext_getElem
  · simp [oftL]
  · intro q h1 h2
    rw [List.getElem_set]
    simp only [oftL, List.getElem_map, List.getElem_range]
    rw [often_take h, hj]
    by_cases e : j = q
    · subst e
      have := oft_get (b := b) (ws := ws.take i) h13
      unfold oftL at this
      simp only [if_true]; rw [this]
    · rw [if_neg e, if_neg (by omega)]; omega
theorem ways_max : (4 : Nat) ^ 6 = 4096 := by decide
theorem felt_len {bs : List Bunch} (h : ∀ b ∈ bs, b.hi + 1 - b.lo ≤ 4) : (felt bs).length ≤ 4 ^ bs.length := by
  induction bs with
  | nil => simp [felt]
  | cons b bs ih =>
    have ih := ih fun x hx => h x (.tail _ hx)
    have hb := h b (.head _)
    have hl : (spanL b.lo b.hi).length ≤ 4 := by
      have : ∀ n lo, (upto lo n).length = n := by intro n; induction n with
        | zero => intro lo; rfl
        | succ n ih => intro lo; simp [upto, ih]
      unfold spanL; rw [this]; omega
    have key : ∀ xs : List Int, (xs.flatMap fun n => (felt bs).map (n :: ·)).length = xs.length * (felt bs).length := by
      intro xs
      induction xs with
      | nil => simp
      | cons x xs ih => rw [List.flatMap_cons, List.length_append, ih, List.length_map, List.length_cons, Nat.succ_mul]; omega
    simp only [felt]
    rw [key, List.length_cons, Nat.pow_succ, Nat.mul_comm]
    exact Nat.mul_le_mul ih hl
theorem ways_len {l : Lot} (hok : l.Ok) (but : Nat) : (ways l but).length ≤ 4096 := by
  have h1 := List.length_filter_le (fun h => soFrom but h 0 l.counts) (felt l.bunches)
  have h2 := felt_len (bs := l.bunches) (fun b hb => by have := hok.bunch b hb; omega)
  have h3 : 4 ^ l.bunches.length ≤ 4 ^ 6 := Nat.pow_le_pow_right (by omega) hok.lb
  have h4 := ways_max
  unfold ways; omega
end Go.Rt.Ha
