/- Own texts of this claim, joined. No conditions. -/
import Derived.Test.YtpbchcophgpchaaGreatHTopGradeda
import Derived.Test.YtpbchcophgpchaaGreatHTopGradedb
import Derived.Test.YtpbchcophgpchaaGreatHTopGradedc
import Derived.Test.YtpbchcophgpchaaGreatHTopGradedd
set_option linter.unusedVariables false
set_option linter.unusedSimpArgs false
set_option maxRecDepth 20000
namespace Go.Proofs.Hn
open Go.Proofs.Tryz
open Go.Rt Go.Rt.Ha
attribute [local irreducible] WL WC Con Yd At Ats Sl Agree DW
theorem Try_HN_fb2 (x0 : Int) (w : World) : (Instr.build 28 [(0, .int .i64 x0)].toArray).run Tryz.prog w = .ok (.agg #[.int .i64 x0, .int .i64 0]) w := by kernel_rfl
theorem Try_HN_fb3 (x0 : Int) (x1 : Int) (w : World) : (Instr.build 102 [(0, .int .i64 x0), (1, .int .i64 x1)].toArray).run Tryz.prog w = .ok (.agg #[.int .i64 x0, .int .i64 x1]) w := by kernel_rfl
theorem Try_HN_fb4 (x0 : Int) (x1 : Int) (w : World) : (Instr.build 28 [(0, .int .i64 x0), (1, .int .i64 x1)].toArray).run Tryz.prog w = .ok (.agg #[.int .i64 x0, .int .i64 x1]) w := by kernel_rfl
theorem front6 {w0 w : World} {M Y R : List (Nat × Obj)} {a : Nat × Obj} (h : St w0 w (M ++ (Y ++ (a :: R)))) : St w0 w (a :: (M ++ (Y ++ R))) := h.perm ((List.Perm.append_left M (zBe Y [a] R)).trans (zBe M [a] (Y ++ R)))
theorem tot_perm {w0 w : World} {M F : List (Nat × Obj)} {b6 lb bb bn b4 b3 b2 : Nat × Obj} (h : St w0 w (b6 :: (M ++ (lb :: bb :: bn :: b4 :: b3 :: b2 :: F)))) : St w0 w (b4 :: (M ++ (b6 :: lb :: bb :: bn :: b3 :: b2 :: F))) := by
  have h1 : St w0 w (([b6] ++ M) ++ ([lb, bb, bn, b4] ++ (b3 :: b2 :: F))) := by simpa using h
  have h2 := h1.perm (List.Perm.append_left ([b6] ++ M) (show ([lb, bb, bn, b4] ++ (b3 :: b2 :: F)).Perm ([b4] ++ ([lb, bb, bn] ++ (b3 :: b2 :: F))) from zBe [lb, bb, bn] [b4] (b3 :: b2 :: F)))
  have h3 := h2.perm (zBe ([b6] ++ M) [b4] ([lb, bb, bn] ++ (b3 :: b2 :: F)))
  have h4 : St w0 w (b4 :: ([b6] ++ (M ++ (lb :: bb :: bn :: b3 :: b2 :: F)))) := by simpa using h3
  exact h4.perm (List.Perm.cons _ (zBe [b6] M (lb :: bb :: bn :: b3 :: b2 :: F)))
theorem lk_c {w0 w : World} {M L : List (Nat × Obj)} {a : Nat × Obj} {l : Lot} {p : At3} {but lb mm : Nat} (hs : St w0 w (M ++ (a :: L))) (h : LK w0 L l p but lb mm) : LK w0 (a :: L) l p but lb mm := h.cons
theorem iv3 {a b c d e f : Int} (h : a = b) (h2 : c = d) (h3 : e = f) : [Value.int .i64 a, Value.int .i64 c, Value.int .i64 e] = [Value.int .i64 b, Value.int .i64 d, Value.int .i64 f] := by rw [h, h2, h3]
theorem tot_cells {b4 : Nat} {M : List (Nat × Obj)} {x y x' y' : Int} (h2 : x = x') (h3 : y = y') : ((b4, blk 28 [.int .i64 x, .int .i64 y]) :: M : List (Nat × Obj)) = (b4, blk 28 [.int .i64 x', .int .i64 y']) :: M := by subst h2 h3; rfl
theorem two_shl {g : Nat} (h : g ≤ 4) : 2 <<< g < 1000 := by
  match g, h with
  | 0, _ => decide
  | 1, _ => decide
  | 2, _ => decide
  | 3, _ => decide
  | 4, _ => decide
theorem c10 {w0 w : World} {F : List (Nat × Obj)} (l : Lot) (p : At3) (hm : LIn w0 F l p) (g : Int) (hs : St w0 w F) :
  Con Tryz.prog 10 [.agg (l.cells p).toArray, .int .i64 g] w fun v w' => v = .tuple #[.agg #[.int .i64 (totalP l g).1.1, .int .i64 (totalP l g).1.2], .int .i64 (totalP l g).2] ∧ St w0 w' F := by
  refine zDe (n := 81) func10 rfl rfl (Nat.le_of_ble_eq_true rfl) ?_
  have hlg0 := hm.lg
  refine zAg (fun K2 hK1 => ?_)
  refine zAb (zB3 (v := .agg #[.slice _ _ _, .slice _ _ _, .slice _ _ _]) (cs := [_, _, _]) zAa rfl rfl rfl hs (fun b3 w4 hs5 => ?_))
  refine zB3 (v := .int _ _) (cs := [_]) zAa rfl rfl rfl hs5 (fun b6 w7 hs8 => ?_)
  refine zA9 (cs := [_, _]) zAa zeroValue28 rfl hs8 (fun b9 w10 hs11 => ?_)
  refine w_p (zAc (v := _) rfl rfl) rfl ?_
  refine zAf (zAd (hK1 _ _ ?_))
  refine zAg (fun K13 hK12 => ?_)
  refine w_drawT (C := fun w => St w0 w _) [11] (.two [(0, 1), (1, 1), (2, 0), (3, 1), (4, 0)] 5 10 (.two [] 6 10 (.done [(7, 0), (8, 0), (9, 0), (10, 2), (11, 3), (12, 0)]) (.done [(6, 2), (7, 0), (8, 0), (9, 0), (11, 3), (12, 0)])) (.done [(5, 2), (6, 2), (7, 0), (8, 0), (9, 0), (11, 3), (12, 0)])) zBu (by kernel_rfl) hs11 (fun _ h => h.drew) (fun w14 hs15 => ?_)
  refine dt_two ?_
  refine zBa rfl zAa rfl hs15 (fun _ hq => (zA6 (vs := [_, _, _]) isAgg26 sizeOf26 hq rfl rfl (zAj (i := 2) (vs := [_, _, _]) rfl rfl))) ?_
  refine zBa rfl zAa rfl hs15 (fun _ hq => (zAk isAgg3 hq rfl rfl (zAj (i := 1) (vs := [_]) rfl rfl))) ?_
  refine zAp rfl zAa rfl (fun _ => (zAh (o := 0) (i := 0) underlying26 rfl sizeOf22 rfl rfl rfl)) ?_
  refine zBa rfl zAa rfl hs15 (fun _ hq => (zAk isAgg22 hq rfl rfl (zAj (i := 2) (vs := [_]) rfl rfl))) ?_
  refine zAp rfl zAa rfl (fun _ => (zBd underlying22 rfl rfl)) ?_
  refine d_two rfl rfl ?_ ?_
  ·
   refine zAt zAa call45 rfl rfl rfl rfl (c45 _ _ hs15) ?_
   rintro _ w17 ⟨bb, bn, rfl, hs18⟩
   refine zAf (qn ⟨hs18.tail.tail, ?_⟩)
   refine dt_two ?_
   refine d_two rfl rfl ?_ ?_
   ·
    refine zAt zAa call44 rfl rfl rfl rfl (c44 l p hm.cons.cons.cons.cons.cons (.func (.func 79) #[] #[.pointer (some ⟨bb, 0, none⟩), .pointer (some ⟨bn, 0, none⟩)]) (idxE g l.grades.length) (fun X w hs => zC4 call79 (c79 g l.grades.length _ _ (by omega) (Ats.app (zAj (i := 0) (vs := [_]) rfl rfl)) (Ats.app (zAj (i := 1) (vs := [_]) rfl rfl)) hs)) hs18) ?_
    rintro _ w20 (⟨hee, rfl, hs21⟩ | ⟨hee, lb, mm, M, rfl, hM, hs21⟩)
    ·
     refine zAf (qn ⟨hs21.tail.tail, ?_⟩)
     refine dt_done ?_
     refine zAp rfl zAa rfl (fun _ => (zAe (v := .tuple _) rfl rfl)) ?_
     refine zAp rfl zAa rfl (fun _ => (zAq (v := .pointer _) rfl rfl rfl)) ?_
     refine zAp rfl zAa rfl (fun _ => (zAq (v := .int _ _) rfl rfl rfl)) ?_
     refine zCl rfl ?_
     refine zA9 (cs := [_]) zAa zeroValue90 rfl hs21 (fun b22 w23 hs24 => ?_)
     refine zAf (qn ⟨hs24.tail.tail.tail, ?_⟩)
     refine zC8 rfl ?_
     refine zA5 (i := 0) (v := .pointer _) (vs := [_]) zAa sizeOf90 rfl rfl rfl rfl rfl (by simp [Value.oneCell']) hs24 rfl (Nat.le_of_ble_eq_true rfl) (fun w25 hs26 => ?_)
     refine zAf (qn ?_)
     refine zAp rfl zAa rfl (fun _ => (zAc (v := .int _ _) rfl rfl)) ?_
     refine zB1 ?_
     refine zAd (hK12 _ _ ?_)
     refine zAg (fun K28 hK27 => ?_)
     refine zAg (fun K30 hK29 => ?_)
     refine zAb (w_p (zAe (v := .int _ _) rfl rfl) rfl ?_)
     refine w_p (zCc rfl rfl rfl rfl) rfl ?_
     refine zAf (zAd (hK29 _ _ ?_))
     refine zAz rfl rfl (fun h31 => ?_) (fun h31 => ?_)
     ·
      try simp only [zS] at h31
      refine zAg (fun K33 hK32 => ?_)
      refine zAb (w_p (zA6 (vs := [_, _]) isAgg28 sizeOf28 hs26 rfl rfl (zAj (i := 3) (vs := [_, _]) rfl rfl)) rfl ?_)
      refine w_p (zAe (v := .int _ _) rfl rfl) rfl ?_
      refine zA5 (i := 3) (v := .agg #[.int _ _, .int _ _]) (vs := [_, _]) zAa sizeOf28 rfl rfl rfl rfl rfl (by simp [Value.oneCell']) hs26 rfl (Nat.le_of_ble_eq_true rfl) (fun w34 hs35 => ?_)
      refine w_p (zAc (v := .int _ _) rfl rfl) rfl ?_
      refine zAf (zAd (hK32 _ _ ?_))
      refine zA2 (zAm (q_retM0 (l := [.cell 4 28, .tmp 5]) (vs := [_, _]) rfl ⟨⟨rfl, _, rfl, zBx (vs := [_, _]) isAgg28 sizeOf28 hs35 (zAj (i := 3) (vs := [_, _]) rfl rfl)⟩, ⟨rfl, (rfl : _ = Value.int _ _)⟩, trivial⟩ ?_))
      exact ⟨by unfold totalP; rw [if_pos hee]; rfl, hs35.tail.tail.tail.tail.tail.tail⟩
     exfalso
     try simp only [zS] at h31
     first | exact hee h31 | exact h31 hee
    replace hs21 := (show St _ _ (M ++ (_ :: _ :: _ :: _ :: _ :: _ :: F)) from hs21)
    have hk := lk_new hs21 hm.cons.cons.cons.cons.cons (zBz hee).1
    have hew := zBz hee
    have hbt := hk.bt
    have hlg := hk.ok.lg
    have hlb := hk.ok.lb
    have hlc := hk.ok.lc
    refine zAf (qn ⟨hs21.drop.tail.tail.tail, ?_⟩)
    refine dt_done ?_
    refine zAp rfl zAa rfl (fun _ => (zAe (v := .tuple _) rfl rfl)) ?_
    refine zAp rfl zAa rfl (fun _ => (zAq (v := .pointer _) rfl rfl rfl)) ?_
    refine zAp rfl zAa rfl (fun _ => (zAq (v := .int _ _) rfl rfl rfl)) ?_
    refine zCl rfl ?_
    refine zA9 (cs := [_]) zAa zeroValue90 rfl hs21 (fun b36 w37 hs38 => ?_)
    refine zAf (qn ⟨hs38.tail.drop.tail.tail.tail, ?_⟩)
    refine zC8 rfl ?_
    refine zA5 (i := 0) (v := .pointer _) (vs := [_]) zAa sizeOf90 rfl rfl rfl rfl rfl (by simp [Value.oneCell']) hs38 rfl (Nat.le_of_ble_eq_true rfl) (fun w39 hs40 => ?_)
    refine zAf (qn ?_)
    refine zAp rfl zAa rfl (fun _ => (zAc (v := .int _ _) rfl rfl)) ?_
    refine zB1 ?_
    refine zAd (hK12 _ _ ?_)
    refine zAg (fun K42 hK41 => ?_)
    refine zAg (fun K44 hK43 => ?_)
    refine zAb (w_p (zAe (v := .int _ _) rfl rfl) rfl ?_)
    refine w_p (zCc rfl rfl rfl rfl) rfl ?_
    refine zAf (zAd (hK43 _ _ ?_))
    refine zB0 rfl rfl ?_
    refine zAx (zAd (hK41 _ _ ?_))
    refine zAg (fun K46 hK45 => ?_)
    have hs47 := tot_perm (show St _ _ (_ :: (M ++ (_ :: _ :: _ :: _ :: _ :: _ :: F))) from hs40)
    have hk := lk_c hs47.tail (lk_new (zDl hs47.tail) hm.cons.cons.cons.cons (zBz hee).1)
    have hgl := idxE_zero hew.2.1
    have hx6 : Ats w0 ((b36, blk 90 [.pointer (some ⟨lb, 0, none⟩)]) :: (lb, blk 141 [.slice p.ag l.grades.length p.cg, .slice p.ab l.bunches.length p.cb, .slice p.ac l.counts.length p.cc, .int .i64 ((0 : Nat) : Int), .map (some mm)]) :: (bb, blk 3 [.int .i64 (l.grades.length : Int)]) :: (bn, blk 3 [.int .i64 g]) :: (b6, blk 3 [.int .i64 g]) :: (b3, blk 26 (l.cells p)) :: F) b36 0 [.pointer (some ⟨lb, 0, none⟩)] := zAj (i := 0) rfl rfl
    have hx3 : Ats w0 ((b36, blk 90 [.pointer (some ⟨lb, 0, none⟩)]) :: (lb, blk 141 [.slice p.ag l.grades.length p.cg, .slice p.ab l.bunches.length p.cb, .slice p.ac l.counts.length p.cc, .int .i64 ((0 : Nat) : Int), .map (some mm)]) :: (bb, blk 3 [.int .i64 (l.grades.length : Int)]) :: (bn, blk 3 [.int .i64 g]) :: (b6, blk 3 [.int .i64 g]) :: (b3, blk 26 (l.cells p)) :: F) b6 0 [.int .i64 g] := zAj (i := 4) rfl rfl
    have hx2 : Ats w0 ((b36, blk 90 [.pointer (some ⟨lb, 0, none⟩)]) :: (lb, blk 141 [.slice p.ag l.grades.length p.cg, .slice p.ab l.bunches.length p.cb, .slice p.ac l.counts.length p.cc, .int .i64 ((0 : Nat) : Int), .map (some mm)]) :: (bb, blk 3 [.int .i64 (l.grades.length : Int)]) :: (bn, blk 3 [.int .i64 g]) :: (b6, blk 3 [.int .i64 g]) :: (b3, blk 26 (l.cells p)) :: F) b3 0 (l.cells p) := zAj (i := 5) rfl rfl
    refine zAb (w_p (zBs (ps := [(0, _)]) (pv := [(0, .int _ _)]) rfl rfl (fun w => Try_HN_fb2 _ w)) rfl ?_)
    refine zA5 (i := 0) (v := .agg #[.int _ _, .int _ _]) (vs := [_, _]) zAa sizeOf28 rfl rfl rfl rfl rfl (by simp [Value.oneCell']) hs47 rfl (Nat.le_of_ble_eq_true rfl) (fun w48 hs49 => ?_)
    refine zAf (zAd (hK45 _ _ ?_))
    refine zAg (fun K51 hK50 => ?_)
    refine zAg (fun K53 hK52 => ?_)
    refine zAb (w_p (zAk isAgg90 hs49.tail.drop rfl rfl hx6) rfl ?_)
    refine zAt zAa call46 rfl rfl rfl rfl (c46 _ hs49) ?_
    rintro _ w55 ⟨bp, rfl, hs56⟩
    refine zAf (zAd (hK52 _ _ ?_))
    refine zAy ?_
    refine w_range (_ :: M) (fun i Bx => ∃ M, Bx = (b9, blk 28 [.int .i64 (totalW l g.toNat ((Ha.ways l 0).take i)).1, .int .i64 (totalW l g.toNat ((Ha.ways l 0).take i)).2]) :: M ∧ Memo l mm M) (fun _ _ => False) rfl rfl rfl call80 (ways_iter l p 0 lb mm hk.cons bp (zAj (i := 0) (vs := [_]) rfl rfl)) hs56 (zBe [_] (_ :: M) _) ⟨M, rfl, hM⟩ ?_ ?_ ?_
    ·
     intro lp i hi Bx Xr Xr2 w58 hJ hs K hK57
     obtain ⟨M, rfl, hM⟩ := hJ
     have hi2 : i < (Ha.ways l 0).length := by simpa using hi
     rw [List.getElem_map, List.getElem_map]
     have hpl := padw_len hk.ok (List.mem_map.2 ⟨_, List.getElem_mem hi2, rfl⟩)
     have hat := pad6_at (Ha.ways l 0)[i]
     have hwi := way_in hk.ok (List.getElem_mem hi2)
     obtain ⟨h, hh⟩ : ∃ h, h = pad6 (Ha.ways l 0)[i] := ⟨_, rfl⟩
     rw [← hh] at hpl hat ⊢
     have hh6 := hpl.1
     replace hs := (show St _ _ (_ :: (M ++ (Xr ++ (_ :: _ :: _ :: _ :: _ :: _ :: _ :: F)))) from hs)
     refine zAb (zA9 (cs := iv [0, 0, 0, 0, 0, 0]) zAa zeroValue99 rfl hs (fun b59 w60 hs61 => ?_))
     refine zCa (i := 0) (l := _) zAa sizeOf99 (by first | omega | rfl | (simp only [hh6, List.length_map, List.length_set, List.length_append, List.length_take, List.length_drop, List.length_replicate, List.length_cons, List.length_nil] <;> omega)) rfl rfl rfl rfl rfl hs61 rfl (by first | omega | rfl | (simp only [hh6, List.length_map, List.length_set, List.length_append, List.length_take, List.length_drop, List.length_replicate, List.length_cons, List.length_nil] <;> omega)) (fun w62 hs63 => ?_)
     refine zAf (zAd (hK57 _ _ (_ :: _ :: M) hs63 (fun w64 hs65 => ?_)))
     replace hs65 := (show St _ _ (_ :: _ :: M ++ (Xr2 ++ (_ :: _ :: _ :: _ :: _ :: _ :: _ :: F))) from hs65)
     refine zAy ?_
     refine zAg (fun K67 hK66 => ?_)
     refine zAb (w_p (zAc (v := _) rfl rfl) rfl ?_)
     refine w_p (zAc (v := _) rfl rfl) rfl ?_
     refine zAf (zAd (hK66 _ _ ?_))
     refine zAg (fun K69 hK68 => ?_)
     refine zAg (fun K71 hK70 => ?_)
     refine zAb (w_p (zAh (o := 1) (i := 1) underlying26 rfl sizeOf23 rfl rfl rfl) rfl ?_)
     refine w_p (zAk isAgg23 hs65.tail.tail.drop.drop.tail rfl rfl (show Ats _ _ _ _ [_] from Ats.part hx2 1 1)) rfl ?_
     refine w_p (zBd underlying23 rfl rfl) rfl ?_
     refine w_p (zAe (v := _) rfl rfl) rfl ?_
     refine zAf (zAd (hK70 _ _ ?_))
     refine zAy ?_
     refine zBp [8, 9, 10, 11, 33, 34, 35, 36, 37, 38, 39, 40, 41, 42, 43, 44, 45, 46, 47, 48, 49, 50, 51, 52, 53, 54, 55, 56, 57, 58, 59, 60, 61, 62, 63, 64, 65, 66, 67, 68, 69, 70] [8, 9, 33] (fun k vs w => ∃ (q : Nat) (M : List (Nat × Obj)), vs = [.int .i64 (sumsTo l g.toNat ((Ha.ways l 0)[i]'hi2) q).1, .int .i64 (sumsTo l g.toNat ((Ha.ways l 0)[i]'hi2) q).2, .int .i64 q] ∧ q ≤ l.bunches.length ∧ k = l.bunches.length - q ∧ Memo l mm M ∧ St w0 w ((b59, blk 99 (iv h)) :: (b9, blk 28 [.int .i64 (totalW l g.toNat ((Ha.ways l 0).take i)).1, .int .i64 (totalW l g.toNat ((Ha.ways l 0).take i)).2]) :: (M ++ (Xr2 ++ ((bp, blk 90 [.pointer (some ⟨lb, 0, none⟩)]) :: (b36, blk 90 [.pointer (some ⟨lb, 0, none⟩)]) :: (lb, blk 141 [.slice p.ag l.grades.length p.cg, .slice p.ab l.bunches.length p.cb, .slice p.ac l.counts.length p.cc, .int .i64 ((0 : Nat) : Int), .map (some mm)]) :: (bb, blk 3 [.int .i64 (l.grades.length : Int)]) :: (bn, blk 3 [.int .i64 g]) :: (b6, blk 3 [.int .i64 g]) :: (b3, blk 26 (l.cells p)) :: F))))) (l.bunches.length) ?_ ?_
     ·
      exact ⟨0, M, rfl, by omega, by omega, hM, hs65⟩
     intro k vs μ w74 hI K73 hN72
     obtain ⟨q, M, rfl, hqa, rfl, hM, hs⟩ := hI
     refine zAg (fun K76 hK75 => ?_)
     refine zAb (w_p (zBt rfl rfl rfl rfl) rfl ?_)
     refine zAf (zAd (hK75 _ _ ?_))
     refine zAg (fun K78 hK77 => ?_)
     refine zAz rfl rfl (fun h79 => ?_) (fun h79 => ?_)
     ·
      try simp only [zS] at h79
      refine zAx (zAd (hK77 _ _ ?_))
      refine zAg (fun K81 hK80 => ?_)
      refine zAy ?_
      refine zAg (fun K83 hK82 => ?_)
      refine zAb (w_p (zAe (v := .int _ _) rfl rfl) rfl ?_)
      refine w_p (zAc (v := .int _ _) rfl rfl) rfl ?_
      refine zAf (zAd (hK82 _ _ ?_))
      refine zAg (fun K85 hK84 => ?_)
      have hq2 : q < l.bunches.length := by omega
      have hgq := gradesB_in hk.ok hq2 (h.getD q 0)
      have hsm := sums_in (l := l) (g := g.toNat) hwi q
      have h2g := two_shl (g := g.toNat) (by omega)
      have hgq2 := hwi q
      rw [← hat q] at hgq2
      refine w_drawC (C := fun w => ∃ M, Memo l mm M ∧ St w0 w ((b59, blk 99 (iv h)) :: (b9, blk 28 [.int .i64 (totalW l g.toNat ((Ha.ways l 0).take i)).1, .int .i64 (totalW l g.toNat ((Ha.ways l 0).take i)).2]) :: (M ++ (Xr2 ++ ((bp, blk 90 [.pointer (some ⟨lb, 0, none⟩)]) :: (b36, blk 90 [.pointer (some ⟨lb, 0, none⟩)]) :: (lb, blk 141 [.slice p.ag l.grades.length p.cg, .slice p.ab l.bunches.length p.cb, .slice p.ac l.counts.length p.cc, .int .i64 ((0 : Nat) : Int), .map (some mm)]) :: (bb, blk 3 [.int .i64 (l.grades.length : Int)]) :: (bn, blk 3 [.int .i64 g]) :: (b6, blk 3 [.int .i64 g]) :: (b3, blk 26 (l.cells p)) :: F))))) [] [(0, 1), (1, 0), (2, 0), (3, 0), (4, 1), (5, 0), (6, 2), (7, 0)] zBu (by kernel_rfl) ⟨_, hM, hs⟩ (fun _ ⟨M, h1, h2⟩ => ⟨M, h1, h2.drew⟩) (fun w86 ⟨M, hM, hs87⟩ => ?_)
      refine zCv rfl zAa rfl ⟨_, hM, hs87⟩ (fun _ ⟨M, hM, hq⟩ => (zAk isAgg90 hq.tail.tail.drop.drop.tail rfl rfl hx6)) ?_
      refine zAp rfl zAa rfl (fun _ => (zAe (v := .int _ _) rfl rfl)) ?_
      refine zAp rfl zAa rfl (fun _ => (zAe (v := .int _ _) rfl rfl)) ?_
      refine zAp rfl zAa rfl (fun _ => (zB2 underlying99 sizeOf3 rfl rfl rfl rfl (i := q) (by first | rfl | omega) (by omega))) ?_
      refine zCv rfl zAa rfl ⟨_, hM, hs87⟩ (fun _ ⟨M, hM, hq⟩ => (zAk isAgg3 hq rfl rfl (zCb (i := 0) (j := q) rfl (by first | omega | rfl | (simp only [hh6, List.length_map, List.length_set, List.length_append, List.length_take, List.length_drop, List.length_replicate, List.length_cons, List.length_nil] <;> omega))))) ?_
      refine zAp rfl zAa rfl (fun _ => (zBs (ps := [(0, _), (1, _)]) (pv := [(0, .int _ _), (1, .int _ _)]) rfl rfl (fun w => Try_HN_fb3 _ _ w))) ?_
      refine zCl rfl ?_
      refine zAt zAa call47 rfl rfl rfl rfl (grades_con (X := _ :: _ :: []) (F := Xr2 ++ ((bp, blk 90 [.pointer (some ⟨lb, 0, none⟩)]) :: (b36, blk 90 [.pointer (some ⟨lb, 0, none⟩)]) :: (lb, blk 141 [.slice p.ag l.grades.length p.cg, .slice p.ab l.bunches.length p.cb, .slice p.ac l.counts.length p.cc, .int .i64 ((0 : Nat) : Int), .map (some mm)]) :: (bb, blk 3 [.int .i64 (l.grades.length : Int)]) :: (bn, blk 3 [.int .i64 g]) :: (b6, blk 3 [.int .i64 g]) :: (b3, blk 26 (l.cells p)) :: F)) l p 0 lb mm hk.cons.app q hq2 (h.getD q 0) hM hs87) ?_
      rintro _ w89 ⟨rfl, M2, hM2, hs90⟩
      replace hs90 := (show St _ _ (_ :: _ :: M2 ++ (Xr2 ++ (_ :: _ :: _ :: _ :: _ :: _ :: _ :: F))) from hs90)
      refine zAf (qn ⟨⟨_, hM2, hs90⟩, ?_⟩)
      refine zAp rfl zAa rfl (fun _ => (zAc (v := .int _ _) rfl rfl)) ?_
      refine zB1 ?_
      refine zAd (hK84 _ _ ?_)
      refine zAy ?_
      refine zAg (fun K92 hK91 => ?_)
      refine zAb (w_p (zAe (v := .int _ _) rfl rfl) rfl ?_)
      refine w_p (zAk isAgg3 hs90.tail.tail.drop.drop.tail rfl rfl hx3) rfl ?_
      refine w_p (y_shl (x := 2) (y := g.toNat) rfl rfl rfl rfl rfl (by first | rfl | omega) (by first | omega | exact zB8 (by omega)) (by first | omega | exact zB8 (by omega))) rfl ?_
      refine w_p (zBy rfl rfl rfl rfl) rfl ?_
      refine w_p (zAc (v := .bool _) rfl rfl) rfl ?_
      refine zAf (zAd (hK91 _ _ ?_))
      refine zAz rfl rfl (fun h93 => ?_) (fun h93 => ?_)
      ·
       try simp only [zS] at h93
       refine zAg (fun K95 hK94 => ?_)
       refine zAb (w_p (zAe (v := .int _ _) rfl rfl) rfl ?_)
       refine w_p (zAe (v := .int _ _) rfl rfl) rfl ?_
       refine w_p (zB2 underlying99 sizeOf3 rfl rfl rfl rfl (i := q) (by first | rfl | omega) (by omega)) rfl ?_
       refine w_p (zAk isAgg3 hs90 rfl rfl (zCb (i := 0) (j := q) rfl (by first | omega | rfl | (simp only [hh6, List.length_map, List.length_set, List.length_append, List.length_take, List.length_drop, List.length_replicate, List.length_cons, List.length_nil] <;> omega)))) rfl ?_
       refine w_p (zBf rfl rfl rfl rfl (by omega) (by omega)) rfl ?_
       refine w_p (zAc (v := .int _ _) rfl rfl) rfl ?_
       refine zAf (zAd (hK94 _ _ ?_))
       refine zAb (w_p (zAe (v := .int _ _) rfl rfl) rfl ?_)
       refine w_p (zAe (v := .int _ _) rfl rfl) rfl ?_
       refine w_p (zB2 underlying99 sizeOf3 rfl rfl rfl rfl (i := q) (by first | rfl | omega) (by omega)) rfl ?_
       refine w_p (zAk isAgg3 hs90 rfl rfl (zCb (i := 0) (j := q) rfl (by first | omega | rfl | (simp only [hh6, List.length_map, List.length_set, List.length_append, List.length_take, List.length_drop, List.length_replicate, List.length_cons, List.length_nil] <;> omega)))) rfl ?_
       refine w_p (zBf rfl rfl rfl rfl (by omega) (by omega)) rfl ?_
       refine w_p (zAc (v := .int _ _) rfl rfl) rfl ?_
       refine zAf (zAl (zAl (zAd (hK80 _ _ ?_))))
       refine zAb (w_p (zBf rfl rfl rfl rfl (by omega) (by omega)) rfl ?_)
       refine w_p (zAe (v := .int _ _) rfl rfl) rfl ?_
       refine zAf (zAd (hN72 _ _ (Nx.intro (l.bunches.length - (q + 1)) (by omega) (by repeat (first | exact zAv | refine zAu rfl ?_ | refine zAs rfl ?_ _ | refine zAr rfl ?_)) ?_)))
       first
         | (have hq := sums_a (l := l) (g := g.toNat) (h := ((Ha.ways l 0)[i]'hi2)) (k := q) (by rw [← hat q]; omega)
            rw [← hat q] at hq
            exact ⟨q + 1, M2, iv3 (by rw [hq]) (by rw [hq]) rfl, by omega, rfl, hM2, hs90⟩)
         | (have hq := sums_b (l := l) (g := g.toNat) (h := ((Ha.ways l 0)[i]'hi2)) (k := q) (by rw [← hat q]; omega) (by rw [← hat q]; omega)
            rw [← hat q] at hq
            exact ⟨q + 1, M2, iv3 (by rw [hq]) (by rw [hq]) rfl, by omega, rfl, hM2, hs90⟩)
         | (have hq := sums_c (l := l) (g := g.toNat) (h := ((Ha.ways l 0)[i]'hi2)) (k := q) (by rw [← hat q]; omega) (by rw [← hat q]; omega)
            exact ⟨q + 1, M2, iv3 (by rw [hq]) (by rw [hq]) rfl, by omega, rfl, hM2, hs90⟩)
      try simp only [zS] at h93
      refine zAg (fun K97 hK96 => ?_)
      refine zAb (w_p (zAe (v := .int _ _) rfl rfl) rfl ?_)
      refine w_p (zAk isAgg3 hs90.tail.tail.drop.drop.tail rfl rfl hx3) rfl ?_
      refine w_p (zBf rfl rfl rfl rfl (by omega) (by omega)) rfl ?_
      refine w_p (y_shr (x := (gradesB l (bunchOf l q) (h.getD q 0))) (y := g.toNat + 1) rfl rfl rfl rfl (by first | rfl | omega) (by first | rfl | omega) (by first | omega | exact zB8 (by omega))) rfl ?_
      refine w_p (show Yd _ _ _ _ (.int .i64 ((bit (gradesB l (bunchOf l q) (h.getD q 0)) (g.toNat + 1) : Nat) : Int)) from (y_and (x := _) (y := 1) rfl rfl rfl rfl rfl rfl (by first | omega | exact zB8 (by omega)) (by first | omega | exact zB8 (by omega)))) rfl ?_
      refine w_p (zBy rfl rfl rfl rfl) rfl ?_
      refine w_p (zAc (v := .bool _) rfl rfl) rfl ?_
      refine zAf (zAd (hK96 _ _ ?_))
      refine zAz rfl rfl (fun h98 => ?_) (fun h98 => ?_)
      ·
       try simp only [zS] at h98
       refine zAb (w_p (zAe (v := .int _ _) rfl rfl) rfl ?_)
       refine w_p (zAe (v := .int _ _) rfl rfl) rfl ?_
       refine w_p (zB2 underlying99 sizeOf3 rfl rfl rfl rfl (i := q) (by first | rfl | omega) (by omega)) rfl ?_
       refine w_p (zAk isAgg3 hs90 rfl rfl (zCb (i := 0) (j := q) rfl (by first | omega | rfl | (simp only [hh6, List.length_map, List.length_set, List.length_append, List.length_take, List.length_drop, List.length_replicate, List.length_cons, List.length_nil] <;> omega)))) rfl ?_
       refine w_p (zBf rfl rfl rfl rfl (by omega) (by omega)) rfl ?_
       refine w_p (zAc (v := .int _ _) rfl rfl) rfl ?_
       refine zAf (zAl (zAl (zAd (hK80 _ _ ?_))))
       refine zAb (w_p (zBf rfl rfl rfl rfl (by omega) (by omega)) rfl ?_)
       refine w_p (zAe (v := .int _ _) rfl rfl) rfl ?_
       refine zAf (zAd (hN72 _ _ (Nx.intro (l.bunches.length - (q + 1)) (by omega) (by repeat (first | exact zAv | refine zAu rfl ?_ | refine zAs rfl ?_ _ | refine zAr rfl ?_)) ?_)))
       first
         | (have hq := sums_a (l := l) (g := g.toNat) (h := ((Ha.ways l 0)[i]'hi2)) (k := q) (by rw [← hat q]; omega)
            rw [← hat q] at hq
            exact ⟨q + 1, M2, iv3 (by rw [hq]) (by rw [hq]) rfl, by omega, rfl, hM2, hs90⟩)
         | (have hq := sums_b (l := l) (g := g.toNat) (h := ((Ha.ways l 0)[i]'hi2)) (k := q) (by rw [← hat q]; omega) (by rw [← hat q]; omega)
            rw [← hat q] at hq
            exact ⟨q + 1, M2, iv3 (by rw [hq]) (by rw [hq]) rfl, by omega, rfl, hM2, hs90⟩)
         | (have hq := sums_c (l := l) (g := g.toNat) (h := ((Ha.ways l 0)[i]'hi2)) (k := q) (by rw [← hat q]; omega) (by rw [← hat q]; omega)
            exact ⟨q + 1, M2, iv3 (by rw [hq]) (by rw [hq]) rfl, by omega, rfl, hM2, hs90⟩)
      try simp only [zS] at h98
      refine zAx (zAl (zAl (zAd (hK80 _ _ ?_))))
      refine zAb (w_p (zBf rfl rfl rfl rfl (by omega) (by omega)) rfl ?_)
      refine w_p (zAe (v := .int _ _) rfl rfl) rfl ?_
      refine zAf (zAd (hN72 _ _ (Nx.intro (l.bunches.length - (q + 1)) (by omega) (by repeat (first | exact zAv | refine zAu rfl ?_ | refine zAs rfl ?_ _ | refine zAr rfl ?_)) ?_)))
      first
        | (have hq := sums_a (l := l) (g := g.toNat) (h := ((Ha.ways l 0)[i]'hi2)) (k := q) (by rw [← hat q]; omega)
           rw [← hat q] at hq
           exact ⟨q + 1, M2, iv3 (by rw [hq]) (by rw [hq]) rfl, by omega, rfl, hM2, hs90⟩)
        | (have hq := sums_b (l := l) (g := g.toNat) (h := ((Ha.ways l 0)[i]'hi2)) (k := q) (by rw [← hat q]; omega) (by rw [← hat q]; omega)
           rw [← hat q] at hq
           exact ⟨q + 1, M2, iv3 (by rw [hq]) (by rw [hq]) rfl, by omega, rfl, hM2, hs90⟩)
        | (have hq := sums_c (l := l) (g := g.toNat) (h := ((Ha.ways l 0)[i]'hi2)) (k := q) (by rw [← hat q]; omega) (by rw [← hat q]; omega)
           exact ⟨q + 1, M2, iv3 (by rw [hq]) (by rw [hq]) rfl, by omega, rfl, hM2, hs90⟩)
     try simp only [zS] at h79
     refine zBl (zAo (zAo (zA4 (zAd (hK68 _ _ ?_)))))
     refine zAb (w_p (zAh (o := 0) (i := 0) underlying28 rfl sizeOf3 rfl rfl rfl) rfl ?_)
     refine w_p (zAk isAgg3 hs rfl rfl (zAj (i := 1) (vs := [_]) rfl rfl)) rfl ?_
     refine w_p (zAe (v := .int _ _) rfl rfl) rfl ?_
     refine w_p (y_min2 rfl rfl rfl rfl) rfl ?_
     refine w_p (zAh (o := 1) (i := 1) underlying28 rfl sizeOf3 rfl rfl rfl) rfl ?_
     refine w_p (zAk isAgg3 hs rfl rfl (zAj (i := 1) (vs := [_]) rfl rfl)) rfl ?_
     refine w_p (zAe (v := .int _ _) rfl rfl) rfl ?_
     refine w_p (y_max2 rfl rfl rfl rfl) rfl ?_
     refine w_p (zBs (ps := [(0, _), (1, _)]) (pv := [(0, .int _ _), (1, .int _ _)]) rfl rfl (fun w => Try_HN_fb4 _ _ w)) rfl ?_
     refine zA5 (i := 1) (v := .agg #[.int _ _, .int _ _]) (vs := [_, _]) zAa sizeOf28 rfl rfl rfl rfl rfl (by simp [Value.oneCell']) hs rfl (Nat.le_of_ble_eq_true rfl) (fun w99 hs100 => ?_)
     refine zAf (zAl (zCr (_ :: M) hs100.tail ?_))
     have hqn : q = l.bunches.length := by omega
     subst hqn
     exact ⟨M, tot_cells (by rw [total_take hi2]; rfl) (by rw [total_take hi2]; rfl), hM⟩
    ·
     intro bd Bx w101 hJ hs
     obtain ⟨M, rfl, hM⟩ := hJ
     rw [List.length_map, List.length_map, List.take_length] at hs
     replace hs := (show St _ _ (_ :: _ :: (M ++ (_ :: _ :: _ :: _ :: _ :: _ :: _ :: F))) from hs)
     refine zAl (zAd (hK50 _ _ ?_))
     refine zAg (fun K103 hK102 => ?_)
     refine zAb (w_p (zA6 (vs := [_, _]) isAgg28 sizeOf28 hs rfl rfl (zAj (i := 1) (vs := [_, _]) rfl rfl)) rfl ?_)
     refine zA5 (i := 1) (v := .agg #[.int _ _, .int _ _]) (vs := [_, _]) zAa sizeOf28 rfl rfl rfl rfl rfl (by simp [Value.oneCell']) hs rfl (Nat.le_of_ble_eq_true rfl) (fun w104 hs105 => ?_)
     refine w_p (zAc (v := _) rfl rfl) rfl ?_
     refine zAf (zAd (hK102 _ _ ?_))
     refine zA2 (q_retM (i := 0) (l := [.cell 4 28, .tmp 5]) (vs := [_, _]) hs105 rfl rfl (fun w106 hs107 => ⟨⟨⟨rfl, _, rfl, zBx (vs := [_, _]) isAgg28 sizeOf28 hs107 (zAj (i := 1) (vs := [_, _]) rfl rfl)⟩, ⟨rfl, (rfl : _ = Value.int _ _)⟩, trivial⟩, ?_⟩))
     exact ⟨by unfold totalP; rw [if_neg (by simp [hee])]; rfl, hs107.tail.tail.drop.tail.tail.tail.tail.tail.tail.tail⟩
    intro _ _ _ _ hJ
    exact hJ.elim
   refine zA9 (cs := [_]) zAa zeroValue90 rfl hs18 (fun b108 w109 hs110 => ?_)
   refine zAf (qn ⟨hs110.tail.tail.tail, ?_⟩)
   refine dt_done ?_
   refine zCl rfl ?_
   refine zAt zAa call44 rfl rfl rfl rfl (c44 l p hm.cons.cons.cons.cons.cons.cons (.func (.func 79) #[] #[.pointer (some ⟨bb, 0, none⟩), .pointer (some ⟨bn, 0, none⟩)]) (idxE g l.grades.length) (fun X w hs => zC4 call79 (c79 g l.grades.length _ _ (by omega) (Ats.app (zAj (i := 1) (vs := [_]) rfl rfl)) (Ats.app (zAj (i := 2) (vs := [_]) rfl rfl)) hs)) hs110) ?_
   rintro _ w112 (⟨hee, rfl, hs113⟩ | ⟨hee, lb, mm, M, rfl, hM, hs113⟩)
   ·
    refine zAf (qn ⟨hs113.tail.tail.tail, ?_⟩)
    refine zAp rfl zAa rfl (fun _ => (zAe (v := .tuple _) rfl rfl)) ?_
    refine zAp rfl zAa rfl (fun _ => (zAq (v := .pointer _) rfl rfl rfl)) ?_
    refine zAp rfl zAa rfl (fun _ => (zAq (v := .int _ _) rfl rfl rfl)) ?_
    refine zC8 rfl ?_
    refine zA5 (i := 0) (v := .pointer _) (vs := [_]) zAa sizeOf90 rfl rfl rfl rfl rfl (by simp [Value.oneCell']) hs113 rfl (Nat.le_of_ble_eq_true rfl) (fun w114 hs115 => ?_)
    refine zAf (qn ?_)
    refine zAp rfl zAa rfl (fun _ => (zAc (v := .int _ _) rfl rfl)) ?_
    refine zB1 ?_
    refine zAd (hK12 _ _ ?_)
    refine zAg (fun K117 hK116 => ?_)
    refine zAg (fun K119 hK118 => ?_)
    refine zAb (w_p (zAe (v := .int _ _) rfl rfl) rfl ?_)
    refine w_p (zCc rfl rfl rfl rfl) rfl ?_
    refine zAf (zAd (hK118 _ _ ?_))
    refine zAz rfl rfl (fun h120 => ?_) (fun h120 => ?_)
    ·
     try simp only [zS] at h120
     refine zAg (fun K122 hK121 => ?_)
     refine zAb (w_p (zA6 (vs := [_, _]) isAgg28 sizeOf28 hs115 rfl rfl (zAj (i := 3) (vs := [_, _]) rfl rfl)) rfl ?_)
     refine w_p (zAe (v := .int _ _) rfl rfl) rfl ?_
     refine zA5 (i := 3) (v := .agg #[.int _ _, .int _ _]) (vs := [_, _]) zAa sizeOf28 rfl rfl rfl rfl rfl (by simp [Value.oneCell']) hs115 rfl (Nat.le_of_ble_eq_true rfl) (fun w123 hs124 => ?_)
     refine w_p (zAc (v := .int _ _) rfl rfl) rfl ?_
     refine zAf (zAd (hK121 _ _ ?_))
     refine zA2 (zAm (q_retM0 (l := [.cell 4 28, .tmp 5]) (vs := [_, _]) rfl ⟨⟨rfl, _, rfl, zBx (vs := [_, _]) isAgg28 sizeOf28 hs124 (zAj (i := 3) (vs := [_, _]) rfl rfl)⟩, ⟨rfl, (rfl : _ = Value.int _ _)⟩, trivial⟩ ?_))
     exact ⟨by unfold totalP; rw [if_pos hee]; rfl, hs124.tail.tail.tail.tail.tail.tail⟩
    exfalso
    try simp only [zS] at h120
    first | exact hee h120 | exact h120 hee
   replace hs113 := (show St _ _ (M ++ (_ :: _ :: _ :: _ :: _ :: _ :: _ :: F)) from hs113)
   have hk := lk_new hs113 hm.cons.cons.cons.cons.cons.cons (zBz hee).1
   have hew := zBz hee
   have hbt := hk.bt
   have hlg := hk.ok.lg
   have hlb := hk.ok.lb
   have hlc := hk.ok.lc
   refine zAf (qn ⟨hs113.drop.tail.tail.tail.tail, ?_⟩)
   refine zAp rfl zAa rfl (fun _ => (zAe (v := .tuple _) rfl rfl)) ?_
   refine zAp rfl zAa rfl (fun _ => (zAq (v := .pointer _) rfl rfl rfl)) ?_
   refine zAp rfl zAa rfl (fun _ => (zAq (v := .int _ _) rfl rfl rfl)) ?_
   have hs125 := front6 (M := M) (Y := [_]) (show St _ _ (M ++ ([_] ++ (_ :: _ :: _ :: _ :: _ :: _ :: F))) from hs113)
   replace hs125 := (show St _ _ (_ :: (M ++ (_ :: _ :: _ :: _ :: _ :: _ :: F))) from hs125)
   refine zC8 rfl ?_
   refine zA5 (i := 0) (v := .pointer _) (vs := [_]) zAa sizeOf90 rfl rfl rfl rfl rfl (by simp [Value.oneCell']) hs125 rfl (Nat.le_of_ble_eq_true rfl) (fun w126 hs127 => ?_)
   refine zAf (qn ?_)
   refine zAp rfl zAa rfl (fun _ => (zAc (v := .int _ _) rfl rfl)) ?_
   refine zB1 ?_
   refine zAd (hK12 _ _ ?_)
   refine zAg (fun K129 hK128 => ?_)
   refine zAg (fun K131 hK130 => ?_)
   refine zAb (w_p (zAe (v := .int _ _) rfl rfl) rfl ?_)
   refine w_p (zCc rfl rfl rfl rfl) rfl ?_
   refine zAf (zAd (hK130 _ _ ?_))
   refine zB0 rfl rfl ?_
   refine zAx (zAd (hK128 _ _ ?_))
   refine zAg (fun K133 hK132 => ?_)
   have hs134 := tot_perm (show St _ _ (_ :: (M ++ (_ :: _ :: _ :: _ :: _ :: _ :: F))) from hs127)
   have hk := lk_c hs134.tail (lk_new (zDl hs134.tail) hm.cons.cons.cons.cons (zBz hee).1)
   have hgl := idxE_zero hew.2.1
   have hx6 : Ats w0 ((b108, blk 90 [.pointer (some ⟨lb, 0, none⟩)]) :: (lb, blk 141 [.slice p.ag l.grades.length p.cg, .slice p.ab l.bunches.length p.cb, .slice p.ac l.counts.length p.cc, .int .i64 ((0 : Nat) : Int), .map (some mm)]) :: (bb, blk 3 [.int .i64 (l.grades.length : Int)]) :: (bn, blk 3 [.int .i64 g]) :: (b6, blk 3 [.int .i64 g]) :: (b3, blk 26 (l.cells p)) :: F) b108 0 [.pointer (some ⟨lb, 0, none⟩)] := zAj (i := 0) rfl rfl
   have hx3 : Ats w0 ((b108, blk 90 [.pointer (some ⟨lb, 0, none⟩)]) :: (lb, blk 141 [.slice p.ag l.grades.length p.cg, .slice p.ab l.bunches.length p.cb, .slice p.ac l.counts.length p.cc, .int .i64 ((0 : Nat) : Int), .map (some mm)]) :: (bb, blk 3 [.int .i64 (l.grades.length : Int)]) :: (bn, blk 3 [.int .i64 g]) :: (b6, blk 3 [.int .i64 g]) :: (b3, blk 26 (l.cells p)) :: F) b6 0 [.int .i64 g] := zAj (i := 4) rfl rfl
   have hx2 : Ats w0 ((b108, blk 90 [.pointer (some ⟨lb, 0, none⟩)]) :: (lb, blk 141 [.slice p.ag l.grades.length p.cg, .slice p.ab l.bunches.length p.cb, .slice p.ac l.counts.length p.cc, .int .i64 ((0 : Nat) : Int), .map (some mm)]) :: (bb, blk 3 [.int .i64 (l.grades.length : Int)]) :: (bn, blk 3 [.int .i64 g]) :: (b6, blk 3 [.int .i64 g]) :: (b3, blk 26 (l.cells p)) :: F) b3 0 (l.cells p) := zAj (i := 5) rfl rfl
   refine zAb (w_p (zBs (ps := [(0, _)]) (pv := [(0, .int _ _)]) rfl rfl (fun w => Try_HN_fb2 _ w)) rfl ?_)
   refine zA5 (i := 0) (v := .agg #[.int _ _, .int _ _]) (vs := [_, _]) zAa sizeOf28 rfl rfl rfl rfl rfl (by simp [Value.oneCell']) hs134 rfl (Nat.le_of_ble_eq_true rfl) (fun w135 hs136 => ?_)
   refine zAf (zAd (hK132 _ _ ?_))
   refine zAg (fun K138 hK137 => ?_)
   refine zAg (fun K140 hK139 => ?_)
   refine zAb (w_p (zAk isAgg90 hs136.tail.drop rfl rfl hx6) rfl ?_)
   refine zAt zAa call46 rfl rfl rfl rfl (c46 _ hs136) ?_
   rintro _ w142 ⟨bp, rfl, hs143⟩
   refine zAf (zAd (hK139 _ _ ?_))
   refine zAy ?_
   refine w_range (_ :: M) (fun i Bx => ∃ M, Bx = (b9, blk 28 [.int .i64 (totalW l g.toNat ((Ha.ways l 0).take i)).1, .int .i64 (totalW l g.toNat ((Ha.ways l 0).take i)).2]) :: M ∧ Memo l mm M) (fun _ _ => False) rfl rfl rfl call80 (ways_iter l p 0 lb mm hk.cons bp (zAj (i := 0) (vs := [_]) rfl rfl)) hs143 (zBe [_] (_ :: M) _) ⟨M, rfl, hM⟩ ?_ ?_ ?_
   ·
    intro lp i hi Bx Xr Xr2 w145 hJ hs K hK144
    obtain ⟨M, rfl, hM⟩ := hJ
    have hi2 : i < (Ha.ways l 0).length := by simpa using hi
    rw [List.getElem_map, List.getElem_map]
    have hpl := padw_len hk.ok (List.mem_map.2 ⟨_, List.getElem_mem hi2, rfl⟩)
    have hat := pad6_at (Ha.ways l 0)[i]
    have hwi := way_in hk.ok (List.getElem_mem hi2)
    obtain ⟨h, hh⟩ : ∃ h, h = pad6 (Ha.ways l 0)[i] := ⟨_, rfl⟩
    rw [← hh] at hpl hat ⊢
    have hh6 := hpl.1
    replace hs := (show St _ _ (_ :: (M ++ (Xr ++ (_ :: _ :: _ :: _ :: _ :: _ :: _ :: F)))) from hs)
    refine zAb (zA9 (cs := iv [0, 0, 0, 0, 0, 0]) zAa zeroValue99 rfl hs (fun b146 w147 hs148 => ?_))
    refine zCa (i := 0) (l := _) zAa sizeOf99 (by first | omega | rfl | (simp only [hh6, List.length_map, List.length_set, List.length_append, List.length_take, List.length_drop, List.length_replicate, List.length_cons, List.length_nil] <;> omega)) rfl rfl rfl rfl rfl hs148 rfl (by first | omega | rfl | (simp only [hh6, List.length_map, List.length_set, List.length_append, List.length_take, List.length_drop, List.length_replicate, List.length_cons, List.length_nil] <;> omega)) (fun w149 hs150 => ?_)
    refine zAf (zAd (hK144 _ _ (_ :: _ :: M) hs150 (fun w151 hs152 => ?_)))
    replace hs152 := (show St _ _ (_ :: _ :: M ++ (Xr2 ++ (_ :: _ :: _ :: _ :: _ :: _ :: _ :: F))) from hs152)
    refine zAy ?_
    refine zAg (fun K154 hK153 => ?_)
    refine zAb (w_p (zAc (v := _) rfl rfl) rfl ?_)
    refine w_p (zAc (v := _) rfl rfl) rfl ?_
    refine zAf (zAd (hK153 _ _ ?_))
    refine zAg (fun K156 hK155 => ?_)
    refine zAg (fun K158 hK157 => ?_)
    refine zAb (w_p (zAh (o := 1) (i := 1) underlying26 rfl sizeOf23 rfl rfl rfl) rfl ?_)
    refine w_p (zAk isAgg23 hs152.tail.tail.drop.drop.tail rfl rfl (show Ats _ _ _ _ [_] from Ats.part hx2 1 1)) rfl ?_
    refine w_p (zBd underlying23 rfl rfl) rfl ?_
    refine w_p (zAe (v := _) rfl rfl) rfl ?_
    refine zAf (zAd (hK157 _ _ ?_))
    refine zAy ?_
    refine zBp [8, 9, 10, 11, 33, 34, 35, 36, 37, 38, 39, 40, 41, 42, 43, 44, 45, 46, 47, 48, 49, 50, 51, 52, 53, 54, 55, 56, 57, 58, 59, 60, 61, 62, 63, 64, 65, 66, 67, 68, 69, 70] [8, 9, 33] (fun k vs w => ∃ (q : Nat) (M : List (Nat × Obj)), vs = [.int .i64 (sumsTo l g.toNat ((Ha.ways l 0)[i]'hi2) q).1, .int .i64 (sumsTo l g.toNat ((Ha.ways l 0)[i]'hi2) q).2, .int .i64 q] ∧ q ≤ l.bunches.length ∧ k = l.bunches.length - q ∧ Memo l mm M ∧ St w0 w ((b146, blk 99 (iv h)) :: (b9, blk 28 [.int .i64 (totalW l g.toNat ((Ha.ways l 0).take i)).1, .int .i64 (totalW l g.toNat ((Ha.ways l 0).take i)).2]) :: (M ++ (Xr2 ++ ((bp, blk 90 [.pointer (some ⟨lb, 0, none⟩)]) :: (b108, blk 90 [.pointer (some ⟨lb, 0, none⟩)]) :: (lb, blk 141 [.slice p.ag l.grades.length p.cg, .slice p.ab l.bunches.length p.cb, .slice p.ac l.counts.length p.cc, .int .i64 ((0 : Nat) : Int), .map (some mm)]) :: (bb, blk 3 [.int .i64 (l.grades.length : Int)]) :: (bn, blk 3 [.int .i64 g]) :: (b6, blk 3 [.int .i64 g]) :: (b3, blk 26 (l.cells p)) :: F))))) (l.bunches.length) ?_ ?_
    ·
     exact ⟨0, M, rfl, by omega, by omega, hM, hs152⟩
    intro k vs μ w161 hI K160 hN159
    obtain ⟨q, M, rfl, hqa, rfl, hM, hs⟩ := hI
    refine zAg (fun K163 hK162 => ?_)
    refine zAb (w_p (zBt rfl rfl rfl rfl) rfl ?_)
    refine zAf (zAd (hK162 _ _ ?_))
    refine zAg (fun K165 hK164 => ?_)
    refine zAz rfl rfl (fun h166 => ?_) (fun h166 => ?_)
    ·
     try simp only [zS] at h166
     refine zAx (zAd (hK164 _ _ ?_))
     refine zAg (fun K168 hK167 => ?_)
     refine zAy ?_
     refine zAg (fun K170 hK169 => ?_)
     refine zAb (w_p (zAe (v := .int _ _) rfl rfl) rfl ?_)
     refine w_p (zAc (v := .int _ _) rfl rfl) rfl ?_
     refine zAf (zAd (hK169 _ _ ?_))
     refine zAg (fun K172 hK171 => ?_)
     have hq2 : q < l.bunches.length := by omega
     have hgq := gradesB_in hk.ok hq2 (h.getD q 0)
     have hsm := sums_in (l := l) (g := g.toNat) hwi q
     have h2g := two_shl (g := g.toNat) (by omega)
     have hgq2 := hwi q
     rw [← hat q] at hgq2
     refine w_drawC (C := fun w => ∃ M, Memo l mm M ∧ St w0 w ((b146, blk 99 (iv h)) :: (b9, blk 28 [.int .i64 (totalW l g.toNat ((Ha.ways l 0).take i)).1, .int .i64 (totalW l g.toNat ((Ha.ways l 0).take i)).2]) :: (M ++ (Xr2 ++ ((bp, blk 90 [.pointer (some ⟨lb, 0, none⟩)]) :: (b108, blk 90 [.pointer (some ⟨lb, 0, none⟩)]) :: (lb, blk 141 [.slice p.ag l.grades.length p.cg, .slice p.ab l.bunches.length p.cb, .slice p.ac l.counts.length p.cc, .int .i64 ((0 : Nat) : Int), .map (some mm)]) :: (bb, blk 3 [.int .i64 (l.grades.length : Int)]) :: (bn, blk 3 [.int .i64 g]) :: (b6, blk 3 [.int .i64 g]) :: (b3, blk 26 (l.cells p)) :: F))))) [] [(0, 1), (1, 0), (2, 0), (3, 0), (4, 1), (5, 0), (6, 2), (7, 0)] zBu (by kernel_rfl) ⟨_, hM, hs⟩ (fun _ ⟨M, h1, h2⟩ => ⟨M, h1, h2.drew⟩) (fun w173 ⟨M, hM, hs174⟩ => ?_)
     refine zCv rfl zAa rfl ⟨_, hM, hs174⟩ (fun _ ⟨M, hM, hq⟩ => (zAk isAgg90 hq.tail.tail.drop.drop.tail rfl rfl hx6)) ?_
     refine zAp rfl zAa rfl (fun _ => (zAe (v := .int _ _) rfl rfl)) ?_
     refine zAp rfl zAa rfl (fun _ => (zAe (v := .int _ _) rfl rfl)) ?_
     refine zAp rfl zAa rfl (fun _ => (zB2 underlying99 sizeOf3 rfl rfl rfl rfl (i := q) (by first | rfl | omega) (by omega))) ?_
     refine zCv rfl zAa rfl ⟨_, hM, hs174⟩ (fun _ ⟨M, hM, hq⟩ => (zAk isAgg3 hq rfl rfl (zCb (i := 0) (j := q) rfl (by first | omega | rfl | (simp only [hh6, List.length_map, List.length_set, List.length_append, List.length_take, List.length_drop, List.length_replicate, List.length_cons, List.length_nil] <;> omega))))) ?_
     refine zAp rfl zAa rfl (fun _ => (zBs (ps := [(0, _), (1, _)]) (pv := [(0, .int _ _), (1, .int _ _)]) rfl rfl (fun w => Try_HN_fb3 _ _ w))) ?_
     refine zCl rfl ?_
     refine zAt zAa call47 rfl rfl rfl rfl (grades_con (X := _ :: _ :: []) (F := Xr2 ++ ((bp, blk 90 [.pointer (some ⟨lb, 0, none⟩)]) :: (b108, blk 90 [.pointer (some ⟨lb, 0, none⟩)]) :: (lb, blk 141 [.slice p.ag l.grades.length p.cg, .slice p.ab l.bunches.length p.cb, .slice p.ac l.counts.length p.cc, .int .i64 ((0 : Nat) : Int), .map (some mm)]) :: (bb, blk 3 [.int .i64 (l.grades.length : Int)]) :: (bn, blk 3 [.int .i64 g]) :: (b6, blk 3 [.int .i64 g]) :: (b3, blk 26 (l.cells p)) :: F)) l p 0 lb mm hk.cons.app q hq2 (h.getD q 0) hM hs174) ?_
     rintro _ w176 ⟨rfl, M2, hM2, hs177⟩
     replace hs177 := (show St _ _ (_ :: _ :: M2 ++ (Xr2 ++ (_ :: _ :: _ :: _ :: _ :: _ :: _ :: F))) from hs177)
     refine zAf (qn ⟨⟨_, hM2, hs177⟩, ?_⟩)
     refine zAp rfl zAa rfl (fun _ => (zAc (v := .int _ _) rfl rfl)) ?_
     refine zB1 ?_
     refine zAd (hK171 _ _ ?_)
     refine zAy ?_
     refine zAg (fun K179 hK178 => ?_)
     refine zAb (w_p (zAe (v := .int _ _) rfl rfl) rfl ?_)
     refine w_p (zAk isAgg3 hs177.tail.tail.drop.drop.tail rfl rfl hx3) rfl ?_
     refine w_p (y_shl (x := 2) (y := g.toNat) rfl rfl rfl rfl rfl (by first | rfl | omega) (by first | omega | exact zB8 (by omega)) (by first | omega | exact zB8 (by omega))) rfl ?_
     refine w_p (zBy rfl rfl rfl rfl) rfl ?_
     refine w_p (zAc (v := .bool _) rfl rfl) rfl ?_
     refine zAf (zAd (hK178 _ _ ?_))
     refine zAz rfl rfl (fun h180 => ?_) (fun h180 => ?_)
     ·
      try simp only [zS] at h180
      refine zAg (fun K182 hK181 => ?_)
      refine zAb (w_p (zAe (v := .int _ _) rfl rfl) rfl ?_)
      refine w_p (zAe (v := .int _ _) rfl rfl) rfl ?_
      refine w_p (zB2 underlying99 sizeOf3 rfl rfl rfl rfl (i := q) (by first | rfl | omega) (by omega)) rfl ?_
      refine w_p (zAk isAgg3 hs177 rfl rfl (zCb (i := 0) (j := q) rfl (by first | omega | rfl | (simp only [hh6, List.length_map, List.length_set, List.length_append, List.length_take, List.length_drop, List.length_replicate, List.length_cons, List.length_nil] <;> omega)))) rfl ?_
      refine w_p (zBf rfl rfl rfl rfl (by omega) (by omega)) rfl ?_
      refine w_p (zAc (v := .int _ _) rfl rfl) rfl ?_
      refine zAf (zAd (hK181 _ _ ?_))
      refine zAb (w_p (zAe (v := .int _ _) rfl rfl) rfl ?_)
      refine w_p (zAe (v := .int _ _) rfl rfl) rfl ?_
      refine w_p (zB2 underlying99 sizeOf3 rfl rfl rfl rfl (i := q) (by first | rfl | omega) (by omega)) rfl ?_
      refine w_p (zAk isAgg3 hs177 rfl rfl (zCb (i := 0) (j := q) rfl (by first | omega | rfl | (simp only [hh6, List.length_map, List.length_set, List.length_append, List.length_take, List.length_drop, List.length_replicate, List.length_cons, List.length_nil] <;> omega)))) rfl ?_
      refine w_p (zBf rfl rfl rfl rfl (by omega) (by omega)) rfl ?_
      refine w_p (zAc (v := .int _ _) rfl rfl) rfl ?_
      refine zAf (zAl (zAl (zAd (hK167 _ _ ?_))))
      refine zAb (w_p (zBf rfl rfl rfl rfl (by omega) (by omega)) rfl ?_)
      refine w_p (zAe (v := .int _ _) rfl rfl) rfl ?_
      refine zAf (zAd (hN159 _ _ (Nx.intro (l.bunches.length - (q + 1)) (by omega) (by repeat (first | exact zAv | refine zAu rfl ?_ | refine zAs rfl ?_ _ | refine zAr rfl ?_)) ?_)))
      first
        | (have hq := sums_a (l := l) (g := g.toNat) (h := ((Ha.ways l 0)[i]'hi2)) (k := q) (by rw [← hat q]; omega)
           rw [← hat q] at hq
           exact ⟨q + 1, M2, iv3 (by rw [hq]) (by rw [hq]) rfl, by omega, rfl, hM2, hs177⟩)
        | (have hq := sums_b (l := l) (g := g.toNat) (h := ((Ha.ways l 0)[i]'hi2)) (k := q) (by rw [← hat q]; omega) (by rw [← hat q]; omega)
           rw [← hat q] at hq
           exact ⟨q + 1, M2, iv3 (by rw [hq]) (by rw [hq]) rfl, by omega, rfl, hM2, hs177⟩)
        | (have hq := sums_c (l := l) (g := g.toNat) (h := ((Ha.ways l 0)[i]'hi2)) (k := q) (by rw [← hat q]; omega) (by rw [← hat q]; omega)
           exact ⟨q + 1, M2, iv3 (by rw [hq]) (by rw [hq]) rfl, by omega, rfl, hM2, hs177⟩)
     try simp only [zS] at h180
     refine zAg (fun K184 hK183 => ?_)
     refine zAb (w_p (zAe (v := .int _ _) rfl rfl) rfl ?_)
     refine w_p (zAk isAgg3 hs177.tail.tail.drop.drop.tail rfl rfl hx3) rfl ?_
     refine w_p (zBf rfl rfl rfl rfl (by omega) (by omega)) rfl ?_
     refine w_p (y_shr (x := (gradesB l (bunchOf l q) (h.getD q 0))) (y := g.toNat + 1) rfl rfl rfl rfl (by first | rfl | omega) (by first | rfl | omega) (by first | omega | exact zB8 (by omega))) rfl ?_
     refine w_p (show Yd _ _ _ _ (.int .i64 ((bit (gradesB l (bunchOf l q) (h.getD q 0)) (g.toNat + 1) : Nat) : Int)) from (y_and (x := _) (y := 1) rfl rfl rfl rfl rfl rfl (by first | omega | exact zB8 (by omega)) (by first | omega | exact zB8 (by omega)))) rfl ?_
     refine w_p (zBy rfl rfl rfl rfl) rfl ?_
     refine w_p (zAc (v := .bool _) rfl rfl) rfl ?_
     refine zAf (zAd (hK183 _ _ ?_))
     refine zAz rfl rfl (fun h185 => ?_) (fun h185 => ?_)
     ·
      try simp only [zS] at h185
      refine zAb (w_p (zAe (v := .int _ _) rfl rfl) rfl ?_)
      refine w_p (zAe (v := .int _ _) rfl rfl) rfl ?_
      refine w_p (zB2 underlying99 sizeOf3 rfl rfl rfl rfl (i := q) (by first | rfl | omega) (by omega)) rfl ?_
      refine w_p (zAk isAgg3 hs177 rfl rfl (zCb (i := 0) (j := q) rfl (by first | omega | rfl | (simp only [hh6, List.length_map, List.length_set, List.length_append, List.length_take, List.length_drop, List.length_replicate, List.length_cons, List.length_nil] <;> omega)))) rfl ?_
      refine w_p (zBf rfl rfl rfl rfl (by omega) (by omega)) rfl ?_
      refine w_p (zAc (v := .int _ _) rfl rfl) rfl ?_
      refine zAf (zAl (zAl (zAd (hK167 _ _ ?_))))
      refine zAb (w_p (zBf rfl rfl rfl rfl (by omega) (by omega)) rfl ?_)
      refine w_p (zAe (v := .int _ _) rfl rfl) rfl ?_
      refine zAf (zAd (hN159 _ _ (Nx.intro (l.bunches.length - (q + 1)) (by omega) (by repeat (first | exact zAv | refine zAu rfl ?_ | refine zAs rfl ?_ _ | refine zAr rfl ?_)) ?_)))
      first
        | (have hq := sums_a (l := l) (g := g.toNat) (h := ((Ha.ways l 0)[i]'hi2)) (k := q) (by rw [← hat q]; omega)
           rw [← hat q] at hq
           exact ⟨q + 1, M2, iv3 (by rw [hq]) (by rw [hq]) rfl, by omega, rfl, hM2, hs177⟩)
        | (have hq := sums_b (l := l) (g := g.toNat) (h := ((Ha.ways l 0)[i]'hi2)) (k := q) (by rw [← hat q]; omega) (by rw [← hat q]; omega)
           rw [← hat q] at hq
           exact ⟨q + 1, M2, iv3 (by rw [hq]) (by rw [hq]) rfl, by omega, rfl, hM2, hs177⟩)
        | (have hq := sums_c (l := l) (g := g.toNat) (h := ((Ha.ways l 0)[i]'hi2)) (k := q) (by rw [← hat q]; omega) (by rw [← hat q]; omega)
           exact ⟨q + 1, M2, iv3 (by rw [hq]) (by rw [hq]) rfl, by omega, rfl, hM2, hs177⟩)
     try simp only [zS] at h185
     refine zAx (zAl (zAl (zAd (hK167 _ _ ?_))))
     refine zAb (w_p (zBf rfl rfl rfl rfl (by omega) (by omega)) rfl ?_)
     refine w_p (zAe (v := .int _ _) rfl rfl) rfl ?_
     refine zAf (zAd (hN159 _ _ (Nx.intro (l.bunches.length - (q + 1)) (by omega) (by repeat (first | exact zAv | refine zAu rfl ?_ | refine zAs rfl ?_ _ | refine zAr rfl ?_)) ?_)))
     first
       | (have hq := sums_a (l := l) (g := g.toNat) (h := ((Ha.ways l 0)[i]'hi2)) (k := q) (by rw [← hat q]; omega)
          rw [← hat q] at hq
          exact ⟨q + 1, M2, iv3 (by rw [hq]) (by rw [hq]) rfl, by omega, rfl, hM2, hs177⟩)
       | (have hq := sums_b (l := l) (g := g.toNat) (h := ((Ha.ways l 0)[i]'hi2)) (k := q) (by rw [← hat q]; omega) (by rw [← hat q]; omega)
          rw [← hat q] at hq
          exact ⟨q + 1, M2, iv3 (by rw [hq]) (by rw [hq]) rfl, by omega, rfl, hM2, hs177⟩)
       | (have hq := sums_c (l := l) (g := g.toNat) (h := ((Ha.ways l 0)[i]'hi2)) (k := q) (by rw [← hat q]; omega) (by rw [← hat q]; omega)
          exact ⟨q + 1, M2, iv3 (by rw [hq]) (by rw [hq]) rfl, by omega, rfl, hM2, hs177⟩)
    try simp only [zS] at h166
    refine zBl (zAo (zAo (zA4 (zAd (hK155 _ _ ?_)))))
    refine zAb (w_p (zAh (o := 0) (i := 0) underlying28 rfl sizeOf3 rfl rfl rfl) rfl ?_)
    refine w_p (zAk isAgg3 hs rfl rfl (zAj (i := 1) (vs := [_]) rfl rfl)) rfl ?_
    refine w_p (zAe (v := .int _ _) rfl rfl) rfl ?_
    refine w_p (y_min2 rfl rfl rfl rfl) rfl ?_
    refine w_p (zAh (o := 1) (i := 1) underlying28 rfl sizeOf3 rfl rfl rfl) rfl ?_
    refine w_p (zAk isAgg3 hs rfl rfl (zAj (i := 1) (vs := [_]) rfl rfl)) rfl ?_
    refine w_p (zAe (v := .int _ _) rfl rfl) rfl ?_
    refine w_p (y_max2 rfl rfl rfl rfl) rfl ?_
    refine w_p (zBs (ps := [(0, _), (1, _)]) (pv := [(0, .int _ _), (1, .int _ _)]) rfl rfl (fun w => Try_HN_fb4 _ _ w)) rfl ?_
    refine zA5 (i := 1) (v := .agg #[.int _ _, .int _ _]) (vs := [_, _]) zAa sizeOf28 rfl rfl rfl rfl rfl (by simp [Value.oneCell']) hs rfl (Nat.le_of_ble_eq_true rfl) (fun w186 hs187 => ?_)
    refine zAf (zAl (zCr (_ :: M) hs187.tail ?_))
    have hqn : q = l.bunches.length := by omega
    subst hqn
    exact ⟨M, tot_cells (by rw [total_take hi2]; rfl) (by rw [total_take hi2]; rfl), hM⟩
   ·
    intro bd Bx w188 hJ hs
    obtain ⟨M, rfl, hM⟩ := hJ
    rw [List.length_map, List.length_map, List.take_length] at hs
    replace hs := (show St _ _ (_ :: _ :: (M ++ (_ :: _ :: _ :: _ :: _ :: _ :: _ :: F))) from hs)
    refine zAl (zAd (hK137 _ _ ?_))
    refine zAg (fun K190 hK189 => ?_)
    refine zAb (w_p (zA6 (vs := [_, _]) isAgg28 sizeOf28 hs rfl rfl (zAj (i := 1) (vs := [_, _]) rfl rfl)) rfl ?_)
    refine zA5 (i := 1) (v := .agg #[.int _ _, .int _ _]) (vs := [_, _]) zAa sizeOf28 rfl rfl rfl rfl rfl (by simp [Value.oneCell']) hs rfl (Nat.le_of_ble_eq_true rfl) (fun w191 hs192 => ?_)
    refine w_p (zAc (v := _) rfl rfl) rfl ?_
    refine zAf (zAd (hK189 _ _ ?_))
    refine zA2 (q_retM (i := 0) (l := [.cell 4 28, .tmp 5]) (vs := [_, _]) hs192 rfl rfl (fun w193 hs194 => ⟨⟨⟨rfl, _, rfl, zBx (vs := [_, _]) isAgg28 sizeOf28 hs194 (zAj (i := 1) (vs := [_, _]) rfl rfl)⟩, ⟨rfl, (rfl : _ = Value.int _ _)⟩, trivial⟩, ?_⟩))
    exact ⟨by unfold totalP; rw [if_neg (by simp [hee])]; rfl, hs194.tail.tail.drop.tail.tail.tail.tail.tail.tail.tail⟩
   intro _ _ _ _ hJ
   exact hJ.elim
  refine zA9 (cs := [_]) zAa zeroValue90 rfl hs15 (fun b195 w196 hs197 => ?_)
  refine zAf (qn ⟨hs197.tail, ?_⟩)
  refine dt_done ?_
  refine zCl rfl ?_
  refine zAt zAa call45 rfl rfl rfl rfl (c45 _ _ hs197) ?_
  rintro _ w199 ⟨bb, bn, rfl, hs200⟩
  refine zAf (qn ⟨hs200.tail.tail.tail, ?_⟩)
  refine zCl rfl ?_
  refine zAt zAa call44 rfl rfl rfl rfl (c44 l p hm.cons.cons.cons.cons.cons.cons (.func (.func 79) #[] #[.pointer (some ⟨bb, 0, none⟩), .pointer (some ⟨bn, 0, none⟩)]) (idxE g l.grades.length) (fun X w hs => zC4 call79 (c79 g l.grades.length _ _ (by omega) (Ats.app (zAj (i := 0) (vs := [_]) rfl rfl)) (Ats.app (zAj (i := 1) (vs := [_]) rfl rfl)) hs)) hs200) ?_
  rintro _ w202 (⟨hee, rfl, hs203⟩ | ⟨hee, lb, mm, M, rfl, hM, hs203⟩)
  ·
   refine zAf (qn ⟨hs203.tail.tail.tail, ?_⟩)
   refine zAp rfl zAa rfl (fun _ => (zAe (v := .tuple _) rfl rfl)) ?_
   refine zAp rfl zAa rfl (fun _ => (zAq (v := .pointer _) rfl rfl rfl)) ?_
   refine zAp rfl zAa rfl (fun _ => (zAq (v := .int _ _) rfl rfl rfl)) ?_
   refine zC8 rfl ?_
   refine zA5 (i := 2) (v := .pointer _) (vs := [_]) zAa sizeOf90 rfl rfl rfl rfl rfl (by simp [Value.oneCell']) hs203 rfl (Nat.le_of_ble_eq_true rfl) (fun w204 hs205 => ?_)
   refine zAf (qn ?_)
   refine zAp rfl zAa rfl (fun _ => (zAc (v := .int _ _) rfl rfl)) ?_
   refine zB1 ?_
   refine zAd (hK12 _ _ ?_)
   refine zAg (fun K207 hK206 => ?_)
   refine zAg (fun K209 hK208 => ?_)
   refine zAb (w_p (zAe (v := .int _ _) rfl rfl) rfl ?_)
   refine w_p (zCc rfl rfl rfl rfl) rfl ?_
   refine zAf (zAd (hK208 _ _ ?_))
   refine zAz rfl rfl (fun h210 => ?_) (fun h210 => ?_)
   ·
    try simp only [zS] at h210
    refine zAg (fun K212 hK211 => ?_)
    refine zAb (w_p (zA6 (vs := [_, _]) isAgg28 sizeOf28 hs205 rfl rfl (zAj (i := 3) (vs := [_, _]) rfl rfl)) rfl ?_)
    refine w_p (zAe (v := .int _ _) rfl rfl) rfl ?_
    refine zA5 (i := 3) (v := .agg #[.int _ _, .int _ _]) (vs := [_, _]) zAa sizeOf28 rfl rfl rfl rfl rfl (by simp [Value.oneCell']) hs205 rfl (Nat.le_of_ble_eq_true rfl) (fun w213 hs214 => ?_)
    refine w_p (zAc (v := .int _ _) rfl rfl) rfl ?_
    refine zAf (zAd (hK211 _ _ ?_))
    refine zA2 (zAm (q_retM0 (l := [.cell 4 28, .tmp 5]) (vs := [_, _]) rfl ⟨⟨rfl, _, rfl, zBx (vs := [_, _]) isAgg28 sizeOf28 hs214 (zAj (i := 3) (vs := [_, _]) rfl rfl)⟩, ⟨rfl, (rfl : _ = Value.int _ _)⟩, trivial⟩ ?_))
    exact ⟨by unfold totalP; rw [if_pos hee]; rfl, hs214.tail.tail.tail.tail.tail.tail⟩
   exfalso
   try simp only [zS] at h210
   first | exact hee h210 | exact h210 hee
  replace hs203 := (show St _ _ (M ++ (_ :: _ :: _ :: _ :: _ :: _ :: _ :: F)) from hs203)
  have hk := lk_new hs203 hm.cons.cons.cons.cons.cons.cons (zBz hee).1
  have hew := zBz hee
  have hbt := hk.bt
  have hlg := hk.ok.lg
  have hlb := hk.ok.lb
  have hlc := hk.ok.lc
  refine zAf (qn ⟨hs203.drop.tail.tail.tail.tail, ?_⟩)
  refine zAp rfl zAa rfl (fun _ => (zAe (v := .tuple _) rfl rfl)) ?_
  refine zAp rfl zAa rfl (fun _ => (zAq (v := .pointer _) rfl rfl rfl)) ?_
  refine zAp rfl zAa rfl (fun _ => (zAq (v := .int _ _) rfl rfl rfl)) ?_
  have hs215 := front6 (M := M) (Y := [_, _, _]) (show St _ _ (M ++ ([_, _, _] ++ (_ :: _ :: _ :: _ :: F))) from hs203)
  replace hs215 := (show St _ _ (_ :: (M ++ (_ :: _ :: _ :: _ :: _ :: _ :: F))) from hs215)
  refine zC8 rfl ?_
  refine zA5 (i := 0) (v := .pointer _) (vs := [_]) zAa sizeOf90 rfl rfl rfl rfl rfl (by simp [Value.oneCell']) hs215 rfl (Nat.le_of_ble_eq_true rfl) (fun w216 hs217 => ?_)
  refine zAf (qn ?_)
  refine zAp rfl zAa rfl (fun _ => (zAc (v := .int _ _) rfl rfl)) ?_
  refine zB1 ?_
  refine zAd (hK12 _ _ ?_)
  refine zAg (fun K219 hK218 => ?_)
  refine zAg (fun K221 hK220 => ?_)
  refine zAb (w_p (zAe (v := .int _ _) rfl rfl) rfl ?_)
  refine w_p (zCc rfl rfl rfl rfl) rfl ?_
  refine zAf (zAd (hK220 _ _ ?_))
  refine zB0 rfl rfl ?_
  refine zAx (zAd (hK218 _ _ ?_))
  refine zAg (fun K223 hK222 => ?_)
  have hs224 := tot_perm (show St _ _ (_ :: (M ++ (_ :: _ :: _ :: _ :: _ :: _ :: F))) from hs217)
  have hk := lk_c hs224.tail (lk_new (zDl hs224.tail) hm.cons.cons.cons.cons (zBz hee).1)
  have hgl := idxE_zero hew.2.1
  have hx6 : Ats w0 ((b195, blk 90 [.pointer (some ⟨lb, 0, none⟩)]) :: (lb, blk 141 [.slice p.ag l.grades.length p.cg, .slice p.ab l.bunches.length p.cb, .slice p.ac l.counts.length p.cc, .int .i64 ((0 : Nat) : Int), .map (some mm)]) :: (bb, blk 3 [.int .i64 (l.grades.length : Int)]) :: (bn, blk 3 [.int .i64 g]) :: (b6, blk 3 [.int .i64 g]) :: (b3, blk 26 (l.cells p)) :: F) b195 0 [.pointer (some ⟨lb, 0, none⟩)] := zAj (i := 0) rfl rfl
  have hx3 : Ats w0 ((b195, blk 90 [.pointer (some ⟨lb, 0, none⟩)]) :: (lb, blk 141 [.slice p.ag l.grades.length p.cg, .slice p.ab l.bunches.length p.cb, .slice p.ac l.counts.length p.cc, .int .i64 ((0 : Nat) : Int), .map (some mm)]) :: (bb, blk 3 [.int .i64 (l.grades.length : Int)]) :: (bn, blk 3 [.int .i64 g]) :: (b6, blk 3 [.int .i64 g]) :: (b3, blk 26 (l.cells p)) :: F) b6 0 [.int .i64 g] := zAj (i := 4) rfl rfl
  have hx2 : Ats w0 ((b195, blk 90 [.pointer (some ⟨lb, 0, none⟩)]) :: (lb, blk 141 [.slice p.ag l.grades.length p.cg, .slice p.ab l.bunches.length p.cb, .slice p.ac l.counts.length p.cc, .int .i64 ((0 : Nat) : Int), .map (some mm)]) :: (bb, blk 3 [.int .i64 (l.grades.length : Int)]) :: (bn, blk 3 [.int .i64 g]) :: (b6, blk 3 [.int .i64 g]) :: (b3, blk 26 (l.cells p)) :: F) b3 0 (l.cells p) := zAj (i := 5) rfl rfl
  refine zAb (w_p (zBs (ps := [(0, _)]) (pv := [(0, .int _ _)]) rfl rfl (fun w => Try_HN_fb2 _ w)) rfl ?_)
  refine zA5 (i := 0) (v := .agg #[.int _ _, .int _ _]) (vs := [_, _]) zAa sizeOf28 rfl rfl rfl rfl rfl (by simp [Value.oneCell']) hs224 rfl (Nat.le_of_ble_eq_true rfl) (fun w225 hs226 => ?_)
  refine zAf (zAd (hK222 _ _ ?_))
  refine zAg (fun K228 hK227 => ?_)
  refine zAg (fun K230 hK229 => ?_)
  refine zAb (w_p (zAk isAgg90 hs226.tail.drop rfl rfl hx6) rfl ?_)
  refine zAt zAa call46 rfl rfl rfl rfl (c46 _ hs226) ?_
  rintro _ w232 ⟨bp, rfl, hs233⟩
  refine zAf (zAd (hK229 _ _ ?_))
  refine zAy ?_
  refine w_range (_ :: M) (fun i Bx => ∃ M, Bx = (b9, blk 28 [.int .i64 (totalW l g.toNat ((Ha.ways l 0).take i)).1, .int .i64 (totalW l g.toNat ((Ha.ways l 0).take i)).2]) :: M ∧ Memo l mm M) (fun _ _ => False) rfl rfl rfl call80 (ways_iter l p 0 lb mm hk.cons bp (zAj (i := 0) (vs := [_]) rfl rfl)) hs233 (zBe [_] (_ :: M) _) ⟨M, rfl, hM⟩ ?_ ?_ ?_
  ·
   intro lp i hi Bx Xr Xr2 w235 hJ hs K hK234
   obtain ⟨M, rfl, hM⟩ := hJ
   have hi2 : i < (Ha.ways l 0).length := by simpa using hi
   rw [List.getElem_map, List.getElem_map]
   have hpl := padw_len hk.ok (List.mem_map.2 ⟨_, List.getElem_mem hi2, rfl⟩)
   have hat := pad6_at (Ha.ways l 0)[i]
   have hwi := way_in hk.ok (List.getElem_mem hi2)
   obtain ⟨h, hh⟩ : ∃ h, h = pad6 (Ha.ways l 0)[i] := ⟨_, rfl⟩
   rw [← hh] at hpl hat ⊢
   have hh6 := hpl.1
   replace hs := (show St _ _ (_ :: (M ++ (Xr ++ (_ :: _ :: _ :: _ :: _ :: _ :: _ :: F)))) from hs)
   refine zAb (zA9 (cs := iv [0, 0, 0, 0, 0, 0]) zAa zeroValue99 rfl hs (fun b236 w237 hs238 => ?_))
   refine zCa (i := 0) (l := _) zAa sizeOf99 (by first | omega | rfl | (simp only [hh6, List.length_map, List.length_set, List.length_append, List.length_take, List.length_drop, List.length_replicate, List.length_cons, List.length_nil] <;> omega)) rfl rfl rfl rfl rfl hs238 rfl (by first | omega | rfl | (simp only [hh6, List.length_map, List.length_set, List.length_append, List.length_take, List.length_drop, List.length_replicate, List.length_cons, List.length_nil] <;> omega)) (fun w239 hs240 => ?_)
   refine zAf (zAd (hK234 _ _ (_ :: _ :: M) hs240 (fun w241 hs242 => ?_)))
   replace hs242 := (show St _ _ (_ :: _ :: M ++ (Xr2 ++ (_ :: _ :: _ :: _ :: _ :: _ :: _ :: F))) from hs242)
   refine zAy ?_
   refine zAg (fun K244 hK243 => ?_)
   refine zAb (w_p (zAc (v := _) rfl rfl) rfl ?_)
   refine w_p (zAc (v := _) rfl rfl) rfl ?_
   refine zAf (zAd (hK243 _ _ ?_))
   refine zAg (fun K246 hK245 => ?_)
   refine zAg (fun K248 hK247 => ?_)
   refine zAb (w_p (zAh (o := 1) (i := 1) underlying26 rfl sizeOf23 rfl rfl rfl) rfl ?_)
   refine w_p (zAk isAgg23 hs242.tail.tail.drop.drop.tail rfl rfl (show Ats _ _ _ _ [_] from Ats.part hx2 1 1)) rfl ?_
   refine w_p (zBd underlying23 rfl rfl) rfl ?_
   refine w_p (zAe (v := _) rfl rfl) rfl ?_
   refine zAf (zAd (hK247 _ _ ?_))
   refine zAy ?_
   refine zBp [8, 9, 10, 11, 33, 34, 35, 36, 37, 38, 39, 40, 41, 42, 43, 44, 45, 46, 47, 48, 49, 50, 51, 52, 53, 54, 55, 56, 57, 58, 59, 60, 61, 62, 63, 64, 65, 66, 67, 68, 69, 70] [8, 9, 33] (fun k vs w => ∃ (q : Nat) (M : List (Nat × Obj)), vs = [.int .i64 (sumsTo l g.toNat ((Ha.ways l 0)[i]'hi2) q).1, .int .i64 (sumsTo l g.toNat ((Ha.ways l 0)[i]'hi2) q).2, .int .i64 q] ∧ q ≤ l.bunches.length ∧ k = l.bunches.length - q ∧ Memo l mm M ∧ St w0 w ((b236, blk 99 (iv h)) :: (b9, blk 28 [.int .i64 (totalW l g.toNat ((Ha.ways l 0).take i)).1, .int .i64 (totalW l g.toNat ((Ha.ways l 0).take i)).2]) :: (M ++ (Xr2 ++ ((bp, blk 90 [.pointer (some ⟨lb, 0, none⟩)]) :: (b195, blk 90 [.pointer (some ⟨lb, 0, none⟩)]) :: (lb, blk 141 [.slice p.ag l.grades.length p.cg, .slice p.ab l.bunches.length p.cb, .slice p.ac l.counts.length p.cc, .int .i64 ((0 : Nat) : Int), .map (some mm)]) :: (bb, blk 3 [.int .i64 (l.grades.length : Int)]) :: (bn, blk 3 [.int .i64 g]) :: (b6, blk 3 [.int .i64 g]) :: (b3, blk 26 (l.cells p)) :: F))))) (l.bunches.length) ?_ ?_
   ·
    exact ⟨0, M, rfl, by omega, by omega, hM, hs242⟩
   intro k vs μ w251 hI K250 hN249
   obtain ⟨q, M, rfl, hqa, rfl, hM, hs⟩ := hI
   refine zAg (fun K253 hK252 => ?_)
   refine zAb (w_p (zBt rfl rfl rfl rfl) rfl ?_)
   refine zAf (zAd (hK252 _ _ ?_))
   refine zAg (fun K255 hK254 => ?_)
   refine zAz rfl rfl (fun h256 => ?_) (fun h256 => ?_)
   ·
    try simp only [zS] at h256
    refine zAx (zAd (hK254 _ _ ?_))
    refine zAg (fun K258 hK257 => ?_)
    refine zAy ?_
    refine zAg (fun K260 hK259 => ?_)
    refine zAb (w_p (zAe (v := .int _ _) rfl rfl) rfl ?_)
    refine w_p (zAc (v := .int _ _) rfl rfl) rfl ?_
    refine zAf (zAd (hK259 _ _ ?_))
    refine zAg (fun K262 hK261 => ?_)
    have hq2 : q < l.bunches.length := by omega
    have hgq := gradesB_in hk.ok hq2 (h.getD q 0)
    have hsm := sums_in (l := l) (g := g.toNat) hwi q
    have h2g := two_shl (g := g.toNat) (by omega)
    have hgq2 := hwi q
    rw [← hat q] at hgq2
    refine w_drawC (C := fun w => ∃ M, Memo l mm M ∧ St w0 w ((b236, blk 99 (iv h)) :: (b9, blk 28 [.int .i64 (totalW l g.toNat ((Ha.ways l 0).take i)).1, .int .i64 (totalW l g.toNat ((Ha.ways l 0).take i)).2]) :: (M ++ (Xr2 ++ ((bp, blk 90 [.pointer (some ⟨lb, 0, none⟩)]) :: (b195, blk 90 [.pointer (some ⟨lb, 0, none⟩)]) :: (lb, blk 141 [.slice p.ag l.grades.length p.cg, .slice p.ab l.bunches.length p.cb, .slice p.ac l.counts.length p.cc, .int .i64 ((0 : Nat) : Int), .map (some mm)]) :: (bb, blk 3 [.int .i64 (l.grades.length : Int)]) :: (bn, blk 3 [.int .i64 g]) :: (b6, blk 3 [.int .i64 g]) :: (b3, blk 26 (l.cells p)) :: F))))) [] [(0, 1), (1, 0), (2, 0), (3, 0), (4, 1), (5, 0), (6, 2), (7, 0)] zBu (by kernel_rfl) ⟨_, hM, hs⟩ (fun _ ⟨M, h1, h2⟩ => ⟨M, h1, h2.drew⟩) (fun w263 ⟨M, hM, hs264⟩ => ?_)
    refine zCv rfl zAa rfl ⟨_, hM, hs264⟩ (fun _ ⟨M, hM, hq⟩ => (zAk isAgg90 hq.tail.tail.drop.drop.tail rfl rfl hx6)) ?_
    refine zAp rfl zAa rfl (fun _ => (zAe (v := .int _ _) rfl rfl)) ?_
    refine zAp rfl zAa rfl (fun _ => (zAe (v := .int _ _) rfl rfl)) ?_
    refine zAp rfl zAa rfl (fun _ => (zB2 underlying99 sizeOf3 rfl rfl rfl rfl (i := q) (by first | rfl | omega) (by omega))) ?_
    refine zCv rfl zAa rfl ⟨_, hM, hs264⟩ (fun _ ⟨M, hM, hq⟩ => (zAk isAgg3 hq rfl rfl (zCb (i := 0) (j := q) rfl (by first | omega | rfl | (simp only [hh6, List.length_map, List.length_set, List.length_append, List.length_take, List.length_drop, List.length_replicate, List.length_cons, List.length_nil] <;> omega))))) ?_
    refine zAp rfl zAa rfl (fun _ => (zBs (ps := [(0, _), (1, _)]) (pv := [(0, .int _ _), (1, .int _ _)]) rfl rfl (fun w => Try_HN_fb3 _ _ w))) ?_
    refine zCl rfl ?_
    refine zAt zAa call47 rfl rfl rfl rfl (grades_con (X := _ :: _ :: []) (F := Xr2 ++ ((bp, blk 90 [.pointer (some ⟨lb, 0, none⟩)]) :: (b195, blk 90 [.pointer (some ⟨lb, 0, none⟩)]) :: (lb, blk 141 [.slice p.ag l.grades.length p.cg, .slice p.ab l.bunches.length p.cb, .slice p.ac l.counts.length p.cc, .int .i64 ((0 : Nat) : Int), .map (some mm)]) :: (bb, blk 3 [.int .i64 (l.grades.length : Int)]) :: (bn, blk 3 [.int .i64 g]) :: (b6, blk 3 [.int .i64 g]) :: (b3, blk 26 (l.cells p)) :: F)) l p 0 lb mm hk.cons.app q hq2 (h.getD q 0) hM hs264) ?_
    rintro _ w266 ⟨rfl, M2, hM2, hs267⟩
    replace hs267 := (show St _ _ (_ :: _ :: M2 ++ (Xr2 ++ (_ :: _ :: _ :: _ :: _ :: _ :: _ :: F))) from hs267)
    refine zAf (qn ⟨⟨_, hM2, hs267⟩, ?_⟩)
    refine zAp rfl zAa rfl (fun _ => (zAc (v := .int _ _) rfl rfl)) ?_
    refine zB1 ?_
    refine zAd (hK261 _ _ ?_)
    refine zAy ?_
    refine zAg (fun K269 hK268 => ?_)
    refine zAb (w_p (zAe (v := .int _ _) rfl rfl) rfl ?_)
    refine w_p (zAk isAgg3 hs267.tail.tail.drop.drop.tail rfl rfl hx3) rfl ?_
    refine w_p (y_shl (x := 2) (y := g.toNat) rfl rfl rfl rfl rfl (by first | rfl | omega) (by first | omega | exact zB8 (by omega)) (by first | omega | exact zB8 (by omega))) rfl ?_
    refine w_p (zBy rfl rfl rfl rfl) rfl ?_
    refine w_p (zAc (v := .bool _) rfl rfl) rfl ?_
    refine zAf (zAd (hK268 _ _ ?_))
    refine zAz rfl rfl (fun h270 => ?_) (fun h270 => ?_)
    ·
     try simp only [zS] at h270
     refine zAg (fun K272 hK271 => ?_)
     refine zAb (w_p (zAe (v := .int _ _) rfl rfl) rfl ?_)
     refine w_p (zAe (v := .int _ _) rfl rfl) rfl ?_
     refine w_p (zB2 underlying99 sizeOf3 rfl rfl rfl rfl (i := q) (by first | rfl | omega) (by omega)) rfl ?_
     refine w_p (zAk isAgg3 hs267 rfl rfl (zCb (i := 0) (j := q) rfl (by first | omega | rfl | (simp only [hh6, List.length_map, List.length_set, List.length_append, List.length_take, List.length_drop, List.length_replicate, List.length_cons, List.length_nil] <;> omega)))) rfl ?_
     refine w_p (zBf rfl rfl rfl rfl (by omega) (by omega)) rfl ?_
     refine w_p (zAc (v := .int _ _) rfl rfl) rfl ?_
     refine zAf (zAd (hK271 _ _ ?_))
     refine zAb (w_p (zAe (v := .int _ _) rfl rfl) rfl ?_)
     refine w_p (zAe (v := .int _ _) rfl rfl) rfl ?_
     refine w_p (zB2 underlying99 sizeOf3 rfl rfl rfl rfl (i := q) (by first | rfl | omega) (by omega)) rfl ?_
     refine w_p (zAk isAgg3 hs267 rfl rfl (zCb (i := 0) (j := q) rfl (by first | omega | rfl | (simp only [hh6, List.length_map, List.length_set, List.length_append, List.length_take, List.length_drop, List.length_replicate, List.length_cons, List.length_nil] <;> omega)))) rfl ?_
     refine w_p (zBf rfl rfl rfl rfl (by omega) (by omega)) rfl ?_
     refine w_p (zAc (v := .int _ _) rfl rfl) rfl ?_
     refine zAf (zAl (zAl (zAd (hK257 _ _ ?_))))
     refine zAb (w_p (zBf rfl rfl rfl rfl (by omega) (by omega)) rfl ?_)
     refine w_p (zAe (v := .int _ _) rfl rfl) rfl ?_
     refine zAf (zAd (hN249 _ _ (Nx.intro (l.bunches.length - (q + 1)) (by omega) (by repeat (first | exact zAv | refine zAu rfl ?_ | refine zAs rfl ?_ _ | refine zAr rfl ?_)) ?_)))
     first
       | (have hq := sums_a (l := l) (g := g.toNat) (h := ((Ha.ways l 0)[i]'hi2)) (k := q) (by rw [← hat q]; omega)
          rw [← hat q] at hq
          exact ⟨q + 1, M2, iv3 (by rw [hq]) (by rw [hq]) rfl, by omega, rfl, hM2, hs267⟩)
       | (have hq := sums_b (l := l) (g := g.toNat) (h := ((Ha.ways l 0)[i]'hi2)) (k := q) (by rw [← hat q]; omega) (by rw [← hat q]; omega)
          rw [← hat q] at hq
          exact ⟨q + 1, M2, iv3 (by rw [hq]) (by rw [hq]) rfl, by omega, rfl, hM2, hs267⟩)
       | (have hq := sums_c (l := l) (g := g.toNat) (h := ((Ha.ways l 0)[i]'hi2)) (k := q) (by rw [← hat q]; omega) (by rw [← hat q]; omega)
          exact ⟨q + 1, M2, iv3 (by rw [hq]) (by rw [hq]) rfl, by omega, rfl, hM2, hs267⟩)
    try simp only [zS] at h270
    refine zAg (fun K274 hK273 => ?_)
    refine zAb (w_p (zAe (v := .int _ _) rfl rfl) rfl ?_)
    refine w_p (zAk isAgg3 hs267.tail.tail.drop.drop.tail rfl rfl hx3) rfl ?_
    refine w_p (zBf rfl rfl rfl rfl (by omega) (by omega)) rfl ?_
    refine w_p (y_shr (x := (gradesB l (bunchOf l q) (h.getD q 0))) (y := g.toNat + 1) rfl rfl rfl rfl (by first | rfl | omega) (by first | rfl | omega) (by first | omega | exact zB8 (by omega))) rfl ?_
    refine w_p (show Yd _ _ _ _ (.int .i64 ((bit (gradesB l (bunchOf l q) (h.getD q 0)) (g.toNat + 1) : Nat) : Int)) from (y_and (x := _) (y := 1) rfl rfl rfl rfl rfl rfl (by first | omega | exact zB8 (by omega)) (by first | omega | exact zB8 (by omega)))) rfl ?_
    refine w_p (zBy rfl rfl rfl rfl) rfl ?_
    refine w_p (zAc (v := .bool _) rfl rfl) rfl ?_
    refine zAf (zAd (hK273 _ _ ?_))
    refine zAz rfl rfl (fun h275 => ?_) (fun h275 => ?_)
    ·
     try simp only [zS] at h275
     refine zAb (w_p (zAe (v := .int _ _) rfl rfl) rfl ?_)
     refine w_p (zAe (v := .int _ _) rfl rfl) rfl ?_
     refine w_p (zB2 underlying99 sizeOf3 rfl rfl rfl rfl (i := q) (by first | rfl | omega) (by omega)) rfl ?_
     refine w_p (zAk isAgg3 hs267 rfl rfl (zCb (i := 0) (j := q) rfl (by first | omega | rfl | (simp only [hh6, List.length_map, List.length_set, List.length_append, List.length_take, List.length_drop, List.length_replicate, List.length_cons, List.length_nil] <;> omega)))) rfl ?_
     refine w_p (zBf rfl rfl rfl rfl (by omega) (by omega)) rfl ?_
     refine w_p (zAc (v := .int _ _) rfl rfl) rfl ?_
     refine zAf (zAl (zAl (zAd (hK257 _ _ ?_))))
     refine zAb (w_p (zBf rfl rfl rfl rfl (by omega) (by omega)) rfl ?_)
     refine w_p (zAe (v := .int _ _) rfl rfl) rfl ?_
     refine zAf (zAd (hN249 _ _ (Nx.intro (l.bunches.length - (q + 1)) (by omega) (by repeat (first | exact zAv | refine zAu rfl ?_ | refine zAs rfl ?_ _ | refine zAr rfl ?_)) ?_)))
     first
       | (have hq := sums_a (l := l) (g := g.toNat) (h := ((Ha.ways l 0)[i]'hi2)) (k := q) (by rw [← hat q]; omega)
          rw [← hat q] at hq
          exact ⟨q + 1, M2, iv3 (by rw [hq]) (by rw [hq]) rfl, by omega, rfl, hM2, hs267⟩)
       | (have hq := sums_b (l := l) (g := g.toNat) (h := ((Ha.ways l 0)[i]'hi2)) (k := q) (by rw [← hat q]; omega) (by rw [← hat q]; omega)
          rw [← hat q] at hq
          exact ⟨q + 1, M2, iv3 (by rw [hq]) (by rw [hq]) rfl, by omega, rfl, hM2, hs267⟩)
       | (have hq := sums_c (l := l) (g := g.toNat) (h := ((Ha.ways l 0)[i]'hi2)) (k := q) (by rw [← hat q]; omega) (by rw [← hat q]; omega)
          exact ⟨q + 1, M2, iv3 (by rw [hq]) (by rw [hq]) rfl, by omega, rfl, hM2, hs267⟩)
    try simp only [zS] at h275
    refine zAx (zAl (zAl (zAd (hK257 _ _ ?_))))
    refine zAb (w_p (zBf rfl rfl rfl rfl (by omega) (by omega)) rfl ?_)
    refine w_p (zAe (v := .int _ _) rfl rfl) rfl ?_
    refine zAf (zAd (hN249 _ _ (Nx.intro (l.bunches.length - (q + 1)) (by omega) (by repeat (first | exact zAv | refine zAu rfl ?_ | refine zAs rfl ?_ _ | refine zAr rfl ?_)) ?_)))
    first
      | (have hq := sums_a (l := l) (g := g.toNat) (h := ((Ha.ways l 0)[i]'hi2)) (k := q) (by rw [← hat q]; omega)
         rw [← hat q] at hq
         exact ⟨q + 1, M2, iv3 (by rw [hq]) (by rw [hq]) rfl, by omega, rfl, hM2, hs267⟩)
      | (have hq := sums_b (l := l) (g := g.toNat) (h := ((Ha.ways l 0)[i]'hi2)) (k := q) (by rw [← hat q]; omega) (by rw [← hat q]; omega)
         rw [← hat q] at hq
         exact ⟨q + 1, M2, iv3 (by rw [hq]) (by rw [hq]) rfl, by omega, rfl, hM2, hs267⟩)
      | (have hq := sums_c (l := l) (g := g.toNat) (h := ((Ha.ways l 0)[i]'hi2)) (k := q) (by rw [← hat q]; omega) (by rw [← hat q]; omega)
         exact ⟨q + 1, M2, iv3 (by rw [hq]) (by rw [hq]) rfl, by omega, rfl, hM2, hs267⟩)
   try simp only [zS] at h256
   refine zBl (zAo (zAo (zA4 (zAd (hK245 _ _ ?_)))))
   refine zAb (w_p (zAh (o := 0) (i := 0) underlying28 rfl sizeOf3 rfl rfl rfl) rfl ?_)
   refine w_p (zAk isAgg3 hs rfl rfl (zAj (i := 1) (vs := [_]) rfl rfl)) rfl ?_
   refine w_p (zAe (v := .int _ _) rfl rfl) rfl ?_
   refine w_p (y_min2 rfl rfl rfl rfl) rfl ?_
   refine w_p (zAh (o := 1) (i := 1) underlying28 rfl sizeOf3 rfl rfl rfl) rfl ?_
   refine w_p (zAk isAgg3 hs rfl rfl (zAj (i := 1) (vs := [_]) rfl rfl)) rfl ?_
   refine w_p (zAe (v := .int _ _) rfl rfl) rfl ?_
   refine w_p (y_max2 rfl rfl rfl rfl) rfl ?_
   refine w_p (zBs (ps := [(0, _), (1, _)]) (pv := [(0, .int _ _), (1, .int _ _)]) rfl rfl (fun w => Try_HN_fb4 _ _ w)) rfl ?_
   refine zA5 (i := 1) (v := .agg #[.int _ _, .int _ _]) (vs := [_, _]) zAa sizeOf28 rfl rfl rfl rfl rfl (by simp [Value.oneCell']) hs rfl (Nat.le_of_ble_eq_true rfl) (fun w276 hs277 => ?_)
   refine zAf (zAl (zCr (_ :: M) hs277.tail ?_))
   have hqn : q = l.bunches.length := by omega
   subst hqn
   exact ⟨M, tot_cells (by rw [total_take hi2]; rfl) (by rw [total_take hi2]; rfl), hM⟩
  ·
   intro bd Bx w278 hJ hs
   obtain ⟨M, rfl, hM⟩ := hJ
   rw [List.length_map, List.length_map, List.take_length] at hs
   replace hs := (show St _ _ (_ :: _ :: (M ++ (_ :: _ :: _ :: _ :: _ :: _ :: _ :: F))) from hs)
   refine zAl (zAd (hK227 _ _ ?_))
   refine zAg (fun K280 hK279 => ?_)
   refine zAb (w_p (zA6 (vs := [_, _]) isAgg28 sizeOf28 hs rfl rfl (zAj (i := 1) (vs := [_, _]) rfl rfl)) rfl ?_)
   refine zA5 (i := 1) (v := .agg #[.int _ _, .int _ _]) (vs := [_, _]) zAa sizeOf28 rfl rfl rfl rfl rfl (by simp [Value.oneCell']) hs rfl (Nat.le_of_ble_eq_true rfl) (fun w281 hs282 => ?_)
   refine w_p (zAc (v := _) rfl rfl) rfl ?_
   refine zAf (zAd (hK279 _ _ ?_))
   refine zA2 (q_retM (i := 0) (l := [.cell 4 28, .tmp 5]) (vs := [_, _]) hs282 rfl rfl (fun w283 hs284 => ⟨⟨⟨rfl, _, rfl, zBx (vs := [_, _]) isAgg28 sizeOf28 hs284 (zAj (i := 1) (vs := [_, _]) rfl rfl)⟩, ⟨rfl, (rfl : _ = Value.int _ _)⟩, trivial⟩, ?_⟩))
   exact ⟨by unfold totalP; rw [if_neg (by simp [hee])]; rfl, hs284.tail.tail.drop.tail.tail.tail.tail.tail.tail.tail⟩
  intro _ _ _ _ hJ
  exact hJ.elim

end Go.Proofs.Hn
set_option maxRecDepth 20000
namespace Go.Proofs.Hn
open Go.Proofs.Tryz
open Go.Rt Go.Rt.Ha
attribute [local irreducible] WL WC Con Yd At Ats Sl Agree DW
theorem Try_HO_fb2 (x0 : Int) (w : World) : (Instr.buildSlice 43 1 [(0, .int .i64 x0)].toArray).run Tryz.prog w = .ok (.slice (some ⟨w.heap.size, 0, none⟩) 1 1) (w.alloc (Go.Rt.blk 3 [.int .i64 x0])) := by kernel_rfl
theorem pickE_1 {l : Lot} {g m : Int} (h : idxE g l.grades.length ≠ 0) : idxE g l.grades.length = pickE l g m := by unfold pickE; rw [if_pos h]
theorem pickE_2 {l : Lot} {g m : Int} (h : idxE g l.grades.length = 0) (h2 : out 0 72 m = true) : 7 = pickE l g m := by unfold pickE; rw [if_neg (by simp [h]), if_pos h2]
theorem pickE_3 {l : Lot} {g m : Int} (h : idxE g l.grades.length = 0) (h2 : out 0 72 m = false) : idxE g l.grades.length = pickE l g m := by unfold pickE; rw [if_neg (by simp [h]), if_neg (by simp [h2]), h]
theorem any1 {p : Int → Bool} {x : Int} {b : Bool} (h : [x].any p = b) : p x = b := by simpa using h
theorem c61 {w0 w : World} {F : List (Nat × Obj)} (l : Lot) (p : At3) (g m : Int) (hlg : l.grades.length ≤ 9223372036854775807) (bg bl bm : Nat) (h0 : Ats w0 F bg 0 [.int .i64 g]) (h1 : Ats w0 F bl 0 (l.cells p)) (h2 : Ats w0 F bm 0 [.int .i64 m]) (hs : St w0 w F) :
  Con Tryz.prog 61 [.pointer (some ⟨bg, 0, none⟩), .pointer (some ⟨bl, 0, none⟩), .pointer (some ⟨bm, 0, none⟩)] w fun v w' => v = .int .i64 (pickE l g m) ∧ St w0 w' F := by
  refine zAw (n := 19) func61 rfl rfl (Nat.le_of_ble_eq_true rfl) ?_
  refine zAg (fun K2 hK1 => ?_)
  refine zAb (w_p (zAc (v := _) rfl rfl) rfl ?_)
  refine zAf (zAd (hK1 _ _ ?_))
  refine zAg (fun K4 hK3 => ?_)
  refine zAb (w_p (zAk isAgg3 hs rfl rfl h0) rfl ?_)
  refine w_p (zAh (o := 0) (i := 0) underlying26 rfl sizeOf22 rfl rfl rfl) rfl ?_
  refine w_p (zAk isAgg22 hs rfl rfl (show Ats _ _ _ _ [_] from Ats.part h1 0 1)) rfl ?_
  refine w_p (zBd underlying22 rfl rfl) rfl ?_
  refine zAt zAa call45 rfl rfl rfl rfl (c45 _ _ hs) ?_
  rintro _ w6 ⟨bb, bn, rfl, hs7⟩
  refine zAt zAa call79 rfl rfl rfl rfl (c79 g l.grades.length _ _ (by omega) (zAj (i := 0) (vs := [_]) rfl rfl) (zAj (i := 1) (vs := [_]) rfl rfl) hs7) ?_
  rintro _ w9 ⟨rfl, hs10⟩
  refine w_p (zAc (v := .int _ _) rfl rfl) rfl ?_
  refine zAf (zAd (hK3 _ _ ?_))
  refine zAg (fun K12 hK11 => ?_)
  refine zAg (fun K14 hK13 => ?_)
  refine zAb (w_p (zAe (v := .int _ _) rfl rfl) rfl ?_)
  refine w_p (zBy rfl rfl rfl rfl) rfl ?_
  refine w_p (zAe (v := .bool _) rfl rfl) rfl ?_
  refine zBi (fun h15 => ?_) (fun h15 => ?_)
  ·
   try simp only [zS] at h15
   refine w_y rfl rfl rfl (zAk isAgg3 hs10.tail.tail rfl rfl h2) rfl ?_
   refine zBh (ps := [(0, _)]) (pv := [(0, .int _ _)]) (cs := [_]) (zAn rfl rfl rfl) rfl rfl (fun w => Try_HO_fb2 _ w) hs10 (fun b16 w17 hs18 => ?_)
   refine zAt (zAn rfl rfl rfl) call62 rfl rfl rfl rfl (c62 _ _ _ [_] _ (by simp) (zBr (i := 0) (rows := [[_]]) rfl (by simp) rfl) hs18) ?_
   rintro _ w20 ⟨rfl, hs21⟩
   refine w_p (zA0 (v := .bool _) rfl rfl rfl rfl) rfl ?_
   refine zAf (zAd (hK13 _ _ ?_))
   refine zAz rfl rfl (fun h22 => ?_) (fun h22 => ?_)
   ·
    try simp only [zS] at h22
    refine zAb (w_p (zAc (v := _) rfl rfl) rfl ?_)
    refine zAf (zAd (hK11 _ _ ?_))
    refine zAg (fun K24 hK23 => ?_)
    refine zAb (w_p (zAe (v := .int _ _) rfl rfl) rfl ?_)
    refine w_p (zAc (v := .int _ _) rfl rfl) rfl ?_
    refine zAf (zAd (hK23 _ _ ?_))
    refine zA2 (zA3 (l := [.tmp 3]) (vs := [_]) rfl ⟨⟨rfl, (rfl : _ = Value.int _ _)⟩, trivial⟩ ?_)
    first
      | exact ⟨congrArg (Value.int .i64) (pickE_1 (by assumption)), hs21.tail.tail.tail⟩
      | exact ⟨congrArg (Value.int .i64) (pickE_2 (by assumption) (any1 (by assumption))), hs21.tail.tail.tail⟩
      | exact ⟨congrArg (Value.int .i64) (pickE_3 (by assumption) (any1 (by assumption))), hs21.tail.tail.tail⟩
   try simp only [zS] at h22
   refine zAx (zAd (hK11 _ _ ?_))
   refine zAg (fun K26 hK25 => ?_)
   refine zAb (w_p (zAe (v := .int _ _) rfl rfl) rfl ?_)
   refine w_p (zAc (v := .int _ _) rfl rfl) rfl ?_
   refine zAf (zAd (hK25 _ _ ?_))
   refine zA2 (zA3 (l := [.tmp 3]) (vs := [_]) rfl ⟨⟨rfl, (rfl : _ = Value.int _ _)⟩, trivial⟩ ?_)
   first
     | exact ⟨congrArg (Value.int .i64) (pickE_1 (by assumption)), hs21.tail.tail.tail⟩
     | exact ⟨congrArg (Value.int .i64) (pickE_2 (by assumption) (any1 (by assumption))), hs21.tail.tail.tail⟩
     | exact ⟨congrArg (Value.int .i64) (pickE_3 (by assumption) (any1 (by assumption))), hs21.tail.tail.tail⟩
  try simp only [zS] at h15
  refine zAi rfl rfl rfl ?_
  refine zAi rfl rfl rfl ?_
  refine zAi rfl rfl rfl ?_
  refine w_p (zBb (v := _) rfl rfl rfl rfl) rfl ?_
  refine zAf (zAd (hK13 _ _ ?_))
  refine zB0 rfl rfl ?_
  refine zAx (zAd (hK11 _ _ ?_))
  refine zAg (fun K28 hK27 => ?_)
  refine zAb (w_p (zAe (v := .int _ _) rfl rfl) rfl ?_)
  refine w_p (zAc (v := .int _ _) rfl rfl) rfl ?_
  refine zAf (zAd (hK27 _ _ ?_))
  refine zA2 (zA3 (l := [.tmp 3]) (vs := [_]) rfl ⟨⟨rfl, (rfl : _ = Value.int _ _)⟩, trivial⟩ ?_)
  first
    | exact ⟨congrArg (Value.int .i64) (pickE_1 (by assumption)), hs10.tail.tail⟩
    | exact ⟨congrArg (Value.int .i64) (pickE_2 (by assumption) (any1 (by assumption))), hs10.tail.tail⟩
    | exact ⟨congrArg (Value.int .i64) (pickE_3 (by assumption) (any1 (by assumption))), hs10.tail.tail⟩

theorem diff_same {x y : Nat} (hx : x < 64) (hy : y < 64) : Go.Rt.bitDiff x y = Ha.bitDiff x y := by
  have key : ∀ x < 64, ∀ y < 64, Go.Rt.bitDiff x y = Ha.bitDiff x y := by decide +kernel
  exact key x hx y hy
theorem pick_no1 {l : Lot} {g : Nat} {m : Int} {b : Nat} (h : ¬ ((Ha.bitDiff b (fitTo l g (Ha.ways l 0) l.bunches.length) : Nat) : Int) = 0) : false = pickDo l g m b := by unfold pickDo; rw [decide_eq_false (by omega)]; rfl
theorem pick_all {l : Lot} {g : Nat} {m : Int} {b : Nat} {x : Bool} (h : ((Ha.bitDiff b (fitTo l g (Ha.ways l 0) l.bunches.length) : Nat) : Int) = 0) (h2 : ((Ha.ways l 0).all fun h => decide (m ≤ someOf h (listL b l.bunches.length))) = x) : x = pickDo l g m b := by unfold pickDo; rw [decide_eq_true (by omega), h2]; rfl
theorem fit_small {l : Lot} {g : Nat} {ws : List (List Int)} (h : l.bunches.length ≤ 6) : ∀ k, k ≤ 6 → fitTo l g ws k < 64 := by
  intro k hk
  have h1 := fit_lt l g ws k
  have h2 : 2 ^ k ≤ 2 ^ 6 := Nat.pow_le_pow_right (by omega) hk
  omega
theorem c64 {w0 w : World} {F : List (Nat × Obj)} (l : Lot) (p : At3) (lb mm : Nat) (hk : LK w0 F l p 0 lb mm) (g m : Int) (b : Nat) (hb : b < 64) (bf bl bc bm : Nat) (h1 : Ats w0 F bf 0 [.int .i64 ((fitTo l g.toNat (Ha.ways l 0) l.bunches.length) : Int)]) (h2 : Ats w0 F bl 0 [.pointer (some ⟨lb, 0, none⟩)]) (h3 : Ats w0 F bc 0 (l.cells p)) (h4 : Ats w0 F bm 0 [.int .i64 m]) (hs : St w0 w F) :
  Con Tryz.prog 64 [.int .i64 (b : Int), .pointer (some ⟨bf, 0, none⟩), .pointer (some ⟨bl, 0, none⟩), .pointer (some ⟨bc, 0, none⟩), .pointer (some ⟨bm, 0, none⟩)] w fun v w' => v = .bool (pickDo l g.toNat m b) ∧ St w0 w' F := by
  refine zDe (n := 37) func64 rfl rfl (Nat.le_of_ble_eq_true rfl) ?_
  have hlb := hk.ok.lb
  have hft := fit_small (l := l) (g := g.toNat) (ws := (Ha.ways l 0)) hlb l.bunches.length hlb
  refine zAg (fun K2 hK1 => ?_)
  refine zAb (zB3 (v := .int _ _) (cs := [_]) zAa rfl rfl rfl hs (fun b3 w4 hs5 => ?_))
  refine zA9 (cs := [_]) zAa zeroValue4 rfl hs5 (fun b6 w7 hs8 => ?_)
  refine zAf (zAd (hK1 _ _ ?_))
  refine zAg (fun K10 hK9 => ?_)
  refine zAg (fun K12 hK11 => ?_)
  refine zAb (w_p (zAk isAgg3 hs8 rfl rfl (zAj (i := 1) (vs := [_]) rfl rfl)) rfl ?_)
  refine w_p (zAk isAgg3 hs8.tail.tail rfl rfl h1) rfl ?_
  refine w_p (yd_cast (z' := ((Ha.bitDiff b (fitTo l g.toNat (Ha.ways l 0) l.bunches.length) : Nat) : Int)) (by rw [diff_same hb hft]) (y_andNot (x := b) (y := (fitTo l g.toNat (Ha.ways l 0) l.bunches.length)) rfl rfl rfl rfl (by first | rfl | omega) (by first | rfl | omega) (by first | omega | exact zB8 (by omega)))) rfl ?_
  refine w_p (zCc rfl rfl rfl rfl) rfl ?_
  refine zAf (zAd (hK11 _ _ ?_))
  refine zAz rfl rfl (fun h13 => ?_) (fun h13 => ?_)
  ·
   try simp only [zS] at h13
   refine zAg (fun K15 hK14 => ?_)
   refine zAb (zA5 (i := 0) (v := .bool _) (vs := [_]) zAa sizeOf4 rfl rfl rfl rfl rfl (by simp [Value.oneCell']) hs8 rfl (Nat.le_of_ble_eq_true rfl) (fun w16 hs17 => ?_))
   refine zAf (zAd (hK14 _ _ ?_))
   refine zA2 (zAm (q_retM0 (l := [.cell 6 4]) (vs := [_]) rfl ⟨⟨rfl, _, rfl, zBo isAgg4 hs17 (zAj (i := 0) (vs := [_]) rfl rfl)⟩, trivial⟩ ?_))
   first
     | exact ⟨congrArg Value.bool (pick_no1 (by assumption)), hs17.tail.tail⟩
     | exact ⟨congrArg Value.bool (pick_all (by assumption) hal), hs17.tail.tail⟩
  try simp only [zS] at h13
  refine zAx (zAd (hK9 _ _ ?_))
  refine zAg (fun K19 hK18 => ?_)
  refine zAg (fun K21 hK20 => ?_)
  refine zAb (w_p (zAk isAgg90 hs8.tail.tail rfl rfl h2) rfl ?_)
  refine zAt zAa call46 rfl rfl rfl rfl (c46 _ hs8) ?_
  rintro _ w23 ⟨bp, rfl, hs24⟩
  refine zAf (zAd (hK20 _ _ ?_))
  refine zAy ?_
  refine w_range ([_]) (fun i Bx => Bx = [(b6, blk 4 [.bool false])] ∧ ((Ha.ways l 0).take i).all (fun h => decide (m ≤ someOf h (listL b l.bunches.length))) = true) (fun c Bx => c = .ret ∧ Bx = [(b6, blk 4 [.bool false])] ∧ (Ha.ways l 0).all (fun h => decide (m ≤ someOf h (listL b l.bunches.length))) = false) rfl rfl rfl call80 (ways_iter l p 0 lb mm hk.cons.cons bp (zAj (i := 0) (vs := [_]) rfl rfl)) hs24 (List.Perm.swap _ _ _) ⟨rfl, rfl⟩ ?_ ?_ ?_
  ·
   intro lp i hi Bx Xr Xr2 w26 hJ hs K hK25
   obtain ⟨rfl, hal⟩ := hJ
   have hi2 : i < (Ha.ways l 0).length := by simpa using hi
   rw [List.getElem_map, List.getElem_map]
   have hpl := padw_len hk.ok (List.mem_map.2 ⟨_, List.getElem_mem hi2, rfl⟩)
   have hat := pad6_at (Ha.ways l 0)[i]
   have hwi := way_in hk.ok (List.getElem_mem hi2)
   obtain ⟨h, hh⟩ : ∃ h, h = pad6 (Ha.ways l 0)[i] := ⟨_, rfl⟩
   rw [← hh] at hpl hat ⊢
   have hh6 := hpl.1
   have hx5 : Ats w0 ((bp, blk 90 [.pointer (some ⟨lb, 0, none⟩)]) :: (b3, blk 3 [.int .i64 (b : Int)]) :: F) b3 0 [.int .i64 (b : Int)] := zAj (i := 1) rfl rfl
   replace hs := (show St _ _ (_ :: (Xr ++ (_ :: _ :: F))) from hs)
   refine zAb (zA9 (cs := iv [0, 0, 0, 0, 0, 0]) zAa zeroValue99 rfl hs (fun b27 w28 hs29 => ?_))
   refine zCa (i := 0) (l := _) zAa sizeOf99 (by first | omega | rfl | (simp only [hh6, List.length_map, List.length_set, List.length_append, List.length_take, List.length_drop, List.length_replicate, List.length_cons, List.length_nil] <;> omega)) rfl rfl rfl rfl rfl hs29 rfl (by first | omega | rfl | (simp only [hh6, List.length_map, List.length_set, List.length_append, List.length_take, List.length_drop, List.length_replicate, List.length_cons, List.length_nil] <;> omega)) (fun w30 hs31 => ?_)
   refine zAf (zAd (hK25 _ _ (_ :: _ :: []) hs31 (fun w32 hs33 => ?_)))
   replace hs33 := (show St _ _ (_ :: _ :: Xr2 ++ (_ :: _ :: F)) from hs33)
   refine zAy ?_
   refine zAg (fun K35 hK34 => ?_)
   refine zAb (w_p (zAc (v := _) rfl rfl) rfl ?_)
   refine zAf (zAd (hK34 _ _ ?_))
   refine zAg (fun K37 hK36 => ?_)
   refine zAg (fun K39 hK38 => ?_)
   refine zAb (w_p (zAk isAgg3 hs33.tail.tail.drop rfl rfl hx5) rfl ?_)
   refine w_p (zAh (o := 1) (i := 1) underlying26 rfl sizeOf23 rfl rfl rfl) rfl ?_
   refine w_p (zAk isAgg23 hs33.tail.tail.drop.tail.tail rfl rfl (show Ats _ _ _ _ [_] from Ats.part h3 1 1)) rfl ?_
   refine w_p (zBd underlying23 rfl rfl) rfl ?_
   refine zAt zAa call59 rfl rfl rfl rfl (c59 _ _ (by omega) (by omega) hs33) ?_
   rintro _ w41 ⟨Bl, hown, hs42⟩
   have hs43 := St.perm (L := Bl ++ ([_, _] ++ (Xr2 ++ (_ :: _ :: F)))) hs42 (zBe Bl [_, _] _)
   replace hs43 := (show St _ _ (_ :: _ :: (Bl ++ (Xr2 ++ (_ :: _ :: F)))) from hs43)
   obtain ⟨aL, cL, rfl, hslL, _, _⟩ := own_ints (w0 := w0) hown
   have hll := listL_le b l.bunches.length
   refine w_p (zBd underlying43 rfl rfl) rfl ?_
   refine w_p (zAe (v := _) rfl rfl) rfl ?_
   refine zAf (zAd (hK38 _ _ ?_))
   refine zAy ?_
   refine zBp [8, 10, 24, 25, 26, 27, 28, 29, 30, 31, 32, 33] [8, 24] (fun k vs w => ∃ (q : Nat), vs = [.int .i64 (someOf ((Ha.ways l 0)[i]'hi2) ((listL b l.bunches.length).take q)), .int .i64 q] ∧ q ≤ (listL b l.bunches.length).length ∧ k = (listL b l.bunches.length).length - q ∧ St w0 w ((b27, blk 99 (iv h)) :: (b6, blk 4 [.bool false]) :: (Bl ++ (Xr2 ++ ((bp, blk 90 [.pointer (some ⟨lb, 0, none⟩)]) :: (b3, blk 3 [.int .i64 (b : Int)]) :: F))))) ((listL b l.bunches.length).length) ?_ ?_
   ·
    exact ⟨0, rfl, by omega, by omega, hs43⟩
   intro k vs μ w46 hI K45 hN44
   obtain ⟨q, rfl, hqa, rfl, hs⟩ := hI
   refine zAg (fun K48 hK47 => ?_)
   refine zAb (w_p (zBt rfl rfl rfl rfl) rfl ?_)
   refine zAf (zAd (hK47 _ _ ?_))
   refine zAg (fun K50 hK49 => ?_)
   refine zAz rfl rfl (fun h51 => ?_) (fun h51 => ?_)
   ·
    try simp only [zS] at h51
    refine zAx (zAd (hK49 _ _ ?_))
    refine zAg (fun K53 hK52 => ?_)
    refine zAy ?_
    refine zAg (fun K55 hK54 => ?_)
    have hq2 : q < (listL b l.bunches.length).length := by omega
    obtain ⟨bq, oq, hbq, hxq0⟩ := zC1 hslL hq2
    subst hbq
    have hxq := hxq0.top (F := Xr2 ++ ((bp, blk 90 [.pointer (some ⟨lb, 0, none⟩)]) :: (b3, blk 3 [.int .i64 (b : Int)]) :: F))
    have hzi := listL_in b l.bunches.length _ (List.getElem_mem hq2)
    have hsi := someOf_in hwi ((listL b l.bunches.length).take q)
    have hsl : ((listL b l.bunches.length).take q).length = q := by rw [List.length_take]; omega
    have hgz := hwi ((listL b l.bunches.length)[q]'hq2).toNat
    rw [← hat] at hgz
    refine zAb (w_p (zA7 underlying43 sizeOf3 rfl rfl rfl rfl (i := _) rfl (by omega)) rfl ?_)
    refine w_p (zAk isAgg3 hs.tail.tail rfl rfl hxq) rfl ?_
    refine w_p (zAc (v := .int _ _) rfl rfl) rfl ?_
    refine zAf (zAd (hK54 _ _ ?_))
    refine zAb (w_p (zAe (v := .int _ _) rfl rfl) rfl ?_)
    refine w_p (zAe (v := .int _ _) rfl rfl) rfl ?_
    refine w_p (zB2 underlying99 sizeOf3 rfl rfl rfl rfl (i := ((listL b l.bunches.length)[q]'hq2).toNat) (by first | rfl | omega) (by omega)) rfl ?_
    refine w_p (zAk isAgg3 hs rfl rfl (zCb (i := 0) (j := ((listL b l.bunches.length)[q]'hq2).toNat) rfl (by first | omega | rfl | (simp only [hh6, List.length_map, List.length_set, List.length_append, List.length_take, List.length_drop, List.length_replicate, List.length_cons, List.length_nil] <;> omega)))) rfl ?_
    refine w_p (zBf rfl rfl rfl rfl (by omega) (by omega)) rfl ?_
    refine w_p (zAc (v := .int _ _) rfl rfl) rfl ?_
    refine zAf (zAl (zAd (hK52 _ _ ?_)))
    refine zAb (w_p (zBf rfl rfl rfl rfl (by omega) (by omega)) rfl ?_)
    refine w_p (zAe (v := .int _ _) rfl rfl) rfl ?_
    refine zAf (zAd (hN44 _ _ (Nx.intro ((listL b l.bunches.length).length - (q + 1)) (by omega) (by repeat (first | exact zAv | refine zAu rfl ?_ | refine zAs rfl ?_ _ | refine zAr rfl ?_)) ?_)))
    exact ⟨q + 1, iv2 (by rw [List.take_succ_eq_append_getElem hq2, someOf_snoc, ← hat]) rfl, by omega, rfl, hs⟩
   try simp only [zS] at h51
   refine zBl (zAo (zAo (zA4 (zAd (hK36 _ _ ?_)))))
   refine zAg (fun K57 hK56 => ?_)
   have hqe : q = (listL b l.bunches.length).length := by omega
   have hte : (listL b l.bunches.length).take q = (listL b l.bunches.length) := by rw [List.take_of_length_le (by omega)]
   rw [hte]
   have hs58 := (St.perm (L := [_, _] ++ (Bl ++ (Xr2 ++ (_ :: _ :: F)))) hs (zBe [_, _] Bl _)).drop
   replace hs58 := (show St _ _ (_ :: _ :: (Xr2 ++ (_ :: _ :: F))) from hs58)
   refine zAb (w_p (zAe (v := .int _ _) rfl rfl) rfl ?_)
   refine w_p (zAk isAgg3 hs58.tail.tail.drop.tail.tail rfl rfl h4) rfl ?_
   refine w_p (zBt rfl rfl rfl rfl) rfl ?_
   refine zAf (zAd (hK56 _ _ ?_))
   refine zAz rfl rfl (fun h59 => ?_) (fun h59 => ?_)
   ·
    try simp only [zS] at h59
    refine zAg (fun K61 hK60 => ?_)
    refine zAb (zA5 (i := 1) (v := .bool _) (vs := [_]) zAa sizeOf4 rfl rfl rfl rfl rfl (by simp [Value.oneCell']) hs58 rfl (Nat.le_of_ble_eq_true rfl) (fun w62 hs63 => ?_))
    refine zAf (zAd (hK60 _ _ ?_))
    refine zA2 (zA1 (rd_ret (_ :: []) hs63.tail ?_))
    exact ⟨rfl, rfl, all_not hi2 (decide_eq_false (by omega))⟩
   try simp only [zS] at h59
   refine zAx (zAl (zCr (_ :: []) hs58.tail ?_))
   exact ⟨rfl, all_take hi2 hal (decide_eq_true (by omega))⟩
  ·
   intro bd Bx w64 hJ hs
   obtain ⟨rfl, hal⟩ := hJ
   rw [List.length_map, List.length_map, List.take_length] at hal
   refine zAl (zAd (hK18 _ _ ?_))
   refine zAg (fun K66 hK65 => ?_)
   refine zAb (zA5 (i := 1) (v := .bool _) (vs := [_]) zAa sizeOf4 rfl rfl rfl rfl rfl (by simp [Value.oneCell']) hs rfl (Nat.le_of_ble_eq_true rfl) (fun w67 hs68 => ?_))
   refine zAf (zAd (hK65 _ _ ?_))
   refine zA2 (q_retM (i := 0) (l := [.cell 6 4]) (vs := [_]) hs68 rfl rfl (fun w69 hs70 => ⟨⟨⟨rfl, _, rfl, zBo isAgg4 hs70 (zAj (i := 1) (vs := [_]) rfl rfl)⟩, trivial⟩, ?_⟩))
   first
     | exact ⟨congrArg Value.bool (pick_no1 (by assumption)), hs70.tail.tail.tail.tail⟩
     | exact ⟨congrArg Value.bool (pick_all (by assumption) hal), hs70.tail.tail.tail.tail⟩
  intro bd c Bx w71 hJ hs
  obtain ⟨rfl, rfl, hal⟩ := hJ
  refine zA2 (zA1 (zAm (q_retM (i := 0) (l := [.cell 6 4]) (vs := [_]) hs rfl rfl (fun w72 hs73 => ⟨⟨⟨rfl, _, rfl, zBo isAgg4 hs73 (zAj (i := 1) (vs := [_]) rfl rfl)⟩, trivial⟩, ?_⟩))))
  first
    | exact ⟨congrArg Value.bool (pick_no1 (by assumption)), hs73.tail.tail.tail.tail⟩
    | exact ⟨congrArg Value.bool (pick_all (by assumption) hal), hs73.tail.tail.tail.tail⟩

end Go.Proofs.Hn
set_option maxRecDepth 20000
namespace Go.Proofs.Hn
open Go.Proofs.Tryz
open Go.Rt Go.Rt.Ha
attribute [local irreducible] WL WC Con Yd At Ats Sl Agree DW

theorem fit_skip {l : Lot} {g : Nat} {ws : List (List Int)} {i : Nat} (h : ((setW l i ws &&& 1 : Nat) : Int) = 1 ∨ (0 : Int) < ((setW l i ws >>> (g + 2) : Nat) : Int)) : fitTo l g ws (i + 1) = fitTo l g ws i := by simp only [fitTo]; rw [if_pos (by omega)]
theorem fit_add {l : Lot} {g : Nat} {ws : List (List Int)} {i : Nat} (h : ¬ ((setW l i ws &&& 1 : Nat) : Int) = 1) (h2 : ((setW l i ws >>> (g + 2) : Nat) : Int) ≤ 0) : fitTo l g ws (i + 1) = fitTo l g ws i ||| 1 <<< i := by simp only [fitTo]; rw [if_neg (by omega)]
theorem shl_32 {i : Nat} (h : i < 6) : 1 <<< i < 64 := by
  match i, h with
  | 0, _ => decide
  | 1, _ => decide
  | 2, _ => decide
  | 3, _ => decide
  | 4, _ => decide
  | 5, _ => decide
theorem c27 {w0 w : World} {F : List (Nat × Obj)} (l : Lot) (p : At3) (hm : LIn w0 F l p) (g m : Int) (hs : St w0 w F) :
  Con Tryz.prog 27 [.agg (l.cells p).toArray, .int .i64 g, .int .i64 m] w fun v w' => ∃ B a c, v = .tuple #[.slice a (pickP l g m).1.length c, .int .i64 (pickP l g m).2] ∧ Sl w0 B a 1 ((pickP l g m).1.map fun x => [Value.int .i64 x]) ∧ St w0 w' (B ++ F) := by
  refine zAw (n := 63) func27 rfl rfl (Nat.le_of_ble_eq_true rfl) ?_
  have hlb0 := hm.lb
  refine zAg (fun K2 hK1 => ?_)
  refine zAb (zB3 (v := .agg #[.slice _ _ _, .slice _ _ _, .slice _ _ _]) (cs := [_, _, _]) zAa rfl rfl rfl hs (fun b3 w4 hs5 => ?_))
  refine zB3 (v := .int _ _) (cs := [_]) zAa rfl rfl rfl hs5 (fun b6 w7 hs8 => ?_)
  refine zB3 (v := .int _ _) (cs := [_]) zAa rfl rfl rfl hs8 (fun b9 w10 hs11 => ?_)
  refine w_p (zAc (v := _) rfl rfl) rfl ?_
  refine w_p (zAc (v := _) rfl rfl) rfl ?_
  refine zAf (zAd (hK1 _ _ ?_))
  refine w_scope ?_
  refine zAg (fun K13 hK12 => ?_)
  refine zAb (w_p (zA6 (vs := [_, _, _]) isAgg26 sizeOf26 hs11 rfl rfl (zAj (i := 2) (vs := [_, _, _]) rfl rfl)) rfl ?_)
  refine w_p (zB9 (fv := []) (cv := [_, _, _]) rfl rfl rfl rfl) rfl ?_
  refine zAt zAa call44 rfl rfl rfl rfl (c44 l p hm.cons.cons.cons (.func (.func 61) #[] #[.pointer (some ⟨b6, 0, none⟩), .pointer (some ⟨b3, 0, none⟩), .pointer (some ⟨b9, 0, none⟩)]) (pickE l g m) (fun X w hs => zC4 call61 (c61 l p g m hm.lg _ _ _ (Ats.app (zAj (i := 1) (vs := [_]) rfl rfl)) (Ats.app (zAj (i := 2) (vs := l.cells p) rfl rfl)) (Ats.app (zAj (i := 0) (vs := [_]) rfl rfl)) hs)) hs11) ?_
  rintro _ w15 (⟨hee, rfl, hs16⟩ | ⟨hee, lb, mm, M, rfl, hM, hs16⟩)
  ·
   refine w_p (zAe (v := .tuple _) rfl rfl) rfl ?_
   refine w_p (zAq (v := .pointer _) rfl rfl rfl) rfl ?_
   refine w_p (zAq (v := .int _ _) rfl rfl rfl) rfl ?_
   refine zA9 (cs := [_]) zAa zeroValue90 rfl hs16 (fun b17 w18 hs19 => ?_)
   refine zA5 (i := 0) (v := .pointer _) (vs := [_]) zAa sizeOf90 rfl rfl rfl rfl rfl (by simp [Value.oneCell']) hs19 rfl (Nat.le_of_ble_eq_true rfl) (fun w20 hs21 => ?_)
   refine w_p (zAc (v := .int _ _) rfl rfl) rfl ?_
   refine zAf (zAd (hK12 _ _ ?_))
   refine zAg (fun K23 hK22 => ?_)
   refine zAg (fun K25 hK24 => ?_)
   refine zAb (w_p (zAe (v := .int _ _) rfl rfl) rfl ?_)
   refine w_p (zCc rfl rfl rfl rfl) rfl ?_
   refine zAf (zAd (hK24 _ _ ?_))
   refine zAz rfl rfl (fun h26 => ?_) (fun h26 => ?_)
   ·
    try simp only [zS] at h26
    refine zAg (fun K28 hK27 => ?_)
    refine zAb (w_p (zAe (v := .int _ _) rfl rfl) rfl ?_)
    refine w_p (zAc (v := _) rfl rfl) rfl ?_
    refine w_p (zAc (v := .int _ _) rfl rfl) rfl ?_
    refine zAf (zAd (hK27 _ _ ?_))
    refine zA2 (zAm (q_ng_ret ?_))
    refine zA3 (l := [.tmp 6, .tmp 7]) (vs := [_, _]) rfl ⟨⟨rfl, show _ = (.slice _ _ _ : Value) from rfl⟩, ⟨rfl, (rfl : _ = Value.int _ _)⟩, trivial⟩ ?_
    have hq : pickP l g m = ([], enterE l (pickE l g m)) := by unfold pickP; rw [if_pos hee]
    exact ⟨[], none, 0, by rw [hq]; rfl, by rw [hq]; exact Sl.nil _ _, hs21.tail.tail.tail.tail⟩
   exfalso
   try simp only [zS] at h26
   first | exact hee h26 | exact h26 hee
  replace hs16 := (show St _ _ (M ++ (_ :: _ :: _ :: _ :: F)) from hs16)
  have hk := lk_new hs16 hm.cons.cons.cons (zBz hee).1
  have hew := zBz hee
  have hbt := hk.bt
  have hlg := hk.ok.lg
  have hlb := hk.ok.lb
  have hlc := hk.ok.lc
  refine w_p (zAe (v := .tuple _) rfl rfl) rfl ?_
  refine w_p (zAq (v := .pointer _) rfl rfl rfl) rfl ?_
  refine w_p (zAq (v := .int _ _) rfl rfl rfl) rfl ?_
  refine zA9 (cs := [_]) zAa zeroValue90 rfl hs16 (fun b29 w30 hs31 => ?_)
  refine zA5 (i := 0) (v := .pointer _) (vs := [_]) zAa sizeOf90 rfl rfl rfl rfl rfl (by simp [Value.oneCell']) hs31 rfl (Nat.le_of_ble_eq_true rfl) (fun w32 hs33 => ?_)
  refine w_p (zAc (v := .int _ _) rfl rfl) rfl ?_
  refine zAf (zAd (hK12 _ _ ?_))
  refine zAg (fun K35 hK34 => ?_)
  refine zAg (fun K37 hK36 => ?_)
  refine zAb (w_p (zAe (v := .int _ _) rfl rfl) rfl ?_)
  refine w_p (zCc rfl rfl rfl rfl) rfl ?_
  refine zAf (zAd (hK36 _ _ ?_))
  refine zB0 rfl rfl ?_
  refine zAx (zAd (hK34 _ _ ?_))
  refine zAg (fun K39 hK38 => ?_)
  refine zAb (zA9 (cs := [_]) zAa zeroValue3 rfl hs33 (fun b40 w41 hs42 => ?_))
  refine zA5 (i := 0) (v := .int _ _) (vs := [_]) zAa sizeOf3 rfl rfl rfl rfl rfl (by simp [Value.oneCell']) hs42 rfl (Nat.le_of_ble_eq_true rfl) (fun w43 hs44 => ?_)
  refine zAf (zAd (hK38 _ _ ?_))
  refine zAg (fun K46 hK45 => ?_)
  refine w_label ?_
  refine zAd (hK45 _ _ ?_)
  refine zAg (fun K48 hK47 => ?_)
  refine zAg (fun K50 hK49 => ?_)
  have hx3 : Ats w0 ((lb, blk 141 [.slice p.ag l.grades.length p.cg, .slice p.ab l.bunches.length p.cb, .slice p.ac l.counts.length p.cc, .int .i64 ((0 : Nat) : Int), .map (some mm)]) :: (b9, blk 3 [.int .i64 m]) :: (b6, blk 3 [.int .i64 g]) :: (b3, blk 26 (l.cells p)) :: F) b3 0 (l.cells p) := zAj (i := 3) rfl rfl
  have hx4 : Ats w0 ((lb, blk 141 [.slice p.ag l.grades.length p.cg, .slice p.ab l.bunches.length p.cb, .slice p.ac l.counts.length p.cc, .int .i64 ((0 : Nat) : Int), .map (some mm)]) :: (b9, blk 3 [.int .i64 m]) :: (b6, blk 3 [.int .i64 g]) :: (b3, blk 26 (l.cells p)) :: F) b6 0 [.int .i64 g] := zAj (i := 2) rfl rfl
  have hx5 : Ats w0 ((lb, blk 141 [.slice p.ag l.grades.length p.cg, .slice p.ab l.bunches.length p.cb, .slice p.ac l.counts.length p.cc, .int .i64 ((0 : Nat) : Int), .map (some mm)]) :: (b9, blk 3 [.int .i64 m]) :: (b6, blk 3 [.int .i64 g]) :: (b3, blk 26 (l.cells p)) :: F) b9 0 [.int .i64 m] := zAj (i := 1) rfl rfl
  have hpe := pickE_zero hew.2.1
  refine zAb (w_p (zAh (o := 1) (i := 1) underlying26 rfl sizeOf23 rfl rfl rfl) rfl ?_)
  refine w_p (zAk isAgg23 hs44.tail.tail.drop rfl rfl (show Ats _ _ _ _ [_] from Ats.part hx3 1 1)) rfl ?_
  refine w_p (zBd underlying23 rfl rfl) rfl ?_
  refine w_p (zAe (v := _) rfl rfl) rfl ?_
  refine zAf (zAd (hK49 _ _ ?_))
  refine zAy ?_
  refine zBp [11, 12, 13, 28, 29, 30, 31, 32, 33, 34, 35, 36, 37, 38, 39, 40, 41, 42, 43, 44, 45, 46, 47, 48, 49, 50, 51] [28] (fun k vs w => ∃ (i : Nat) (M : List (Nat × Obj)), vs = [.int .i64 i] ∧ i ≤ l.bunches.length ∧ k = l.bunches.length - i ∧ Memo l mm M ∧ St w0 w ((b40, blk 3 [.int .i64 ((fitTo l g.toNat (Ha.ways l 0) i) : Int)]) :: (b29, blk 90 [.pointer (some ⟨lb, 0, none⟩)]) :: (M ++ ((lb, blk 141 [.slice p.ag l.grades.length p.cg, .slice p.ab l.bunches.length p.cb, .slice p.ac l.counts.length p.cc, .int .i64 ((0 : Nat) : Int), .map (some mm)]) :: (b9, blk 3 [.int .i64 m]) :: (b6, blk 3 [.int .i64 g]) :: (b3, blk 26 (l.cells p)) :: F)))) (l.bunches.length) ?_ ?_
  ·
   exact ⟨0, M, rfl, by omega, by omega, hM, hs44⟩
  intro k vs μ w53 hI K52 hN51
  obtain ⟨i, M, rfl, hia, rfl, hM, hs⟩ := hI
  refine zAg (fun K55 hK54 => ?_)
  refine zAb (w_p (zBt rfl rfl rfl rfl) rfl ?_)
  refine zAf (zAd (hK54 _ _ ?_))
  refine zAg (fun K57 hK56 => ?_)
  refine zAz rfl rfl (fun h58 => ?_) (fun h58 => ?_)
  ·
   try simp only [zS] at h58
   refine zAx (zAd (hK56 _ _ ?_))
   refine zAg (fun K60 hK59 => ?_)
   refine zAy ?_
   refine zAg (fun K62 hK61 => ?_)
   refine zAb (w_p (zAe (v := .int _ _) rfl rfl) rfl ?_)
   refine w_p (zAc (v := .int _ _) rfl rfl) rfl ?_
   refine zAf (zAd (hK61 _ _ ?_))
   refine zAg (fun K64 hK63 => ?_)
   have hi2 : i < l.bunches.length := by omega
   have hsw := setW_lt hk.ok i (Ha.ways l 0)
   have hft := fit_small (l := l) (g := g.toNat) (ws := (Ha.ways l 0)) hk.ok.lb i (by omega)
   have hs32 := shl_32 (i := i) (by omega)
   refine zAb (w_p (zAk isAgg90 hs rfl rfl (zAj (i := 1) (vs := [_]) rfl rfl)) rfl ?_)
   refine w_p (zAe (v := .int _ _) rfl rfl) rfl ?_
   refine zAt zAa call58 rfl rfl rfl rfl (c58 (X := (_ :: _ :: [])) l _ 0 lb mm hk i hi2 hM hs) ?_
   rintro _ w66 ⟨rfl, M68, hM68, hs67⟩
   replace hs67 := (show St _ _ (_ :: _ :: M68 ++ (_ :: _ :: _ :: _ :: F)) from hs67)
   refine w_p (zAe (v := .tuple _) rfl rfl) rfl ?_
   refine w_p (zAq (v := .agg _) rfl rfl rfl) rfl ?_
   refine w_p (zAq (v := .int _ _) rfl rfl rfl) rfl ?_
   refine zA9 (cs := [_, _]) zAa zeroValue28 rfl hs67 (fun b69 w70 hs71 => ?_)
   refine zA5 (i := 0) (v := .agg #[.int _ _, .int _ _]) (vs := [_, _]) zAa sizeOf28 rfl rfl rfl rfl rfl (by simp [Value.oneCell']) hs71 rfl (Nat.le_of_ble_eq_true rfl) (fun w72 hs73 => ?_)
   refine w_p (zAc (v := .int _ _) rfl rfl) rfl ?_
   refine zAf (zAd (hK63 _ _ ?_))
   refine zAg (fun K75 hK74 => ?_)
   refine zAg (fun K77 hK76 => ?_)
   refine zAb (w_p (zAe (v := .int _ _) rfl rfl) rfl ?_)
   refine w_p (y_and (x := (setW l i (Ha.ways l 0))) (y := 1) rfl rfl rfl rfl (by first | rfl | omega) rfl (by first | omega | exact zB8 (by omega)) (by first | omega | exact zB8 (by omega))) rfl ?_
   refine w_p (zBy rfl rfl rfl rfl) rfl ?_
   refine w_p (zAe (v := .bool _) rfl rfl) rfl ?_
   refine zBi (fun h78 => ?_) (fun h78 => ?_)
   ·
    try simp only [zS] at h78
    refine zAi rfl rfl rfl ?_
    refine zAi rfl rfl rfl ?_
    refine zAi rfl rfl rfl ?_
    refine zAi rfl rfl rfl ?_
    refine zAi rfl rfl rfl ?_
    refine w_p (zA0 (v := _) rfl rfl rfl rfl) rfl ?_
    refine zAf (zAd (hK76 _ _ ?_))
    refine zCg rfl rfl ?_
    refine zBl (zAo (zA4 (zAd (hK59 _ _ ?_))))
    refine zAb (w_p (zBf rfl rfl rfl rfl (by omega) (by omega)) rfl ?_)
    refine w_p (zAe (v := .int _ _) rfl rfl) rfl ?_
    refine zAf (zAd (hN51 _ _ (Nx.intro (l.bunches.length - (i + 1)) (by omega) (by repeat (first | exact zAv | refine zAu rfl ?_ | refine zAs rfl ?_ _ | refine zAr rfl ?_)) ?_)))
    first
      | exact ⟨i + 1, M68, rfl, by omega, rfl, hM68, by rw [fit_skip (by first | exact .inl (by assumption) | exact .inr (by assumption))]; exact hs73.tail⟩
      | exact ⟨i + 1, M68, rfl, by omega, rfl, hM68, by rw [fit_add (by assumption) (by assumption)]; exact hs73.tail⟩
   try simp only [zS] at h78
   refine w_y rfl rfl rfl (zAe (v := .int _ _) rfl rfl) rfl ?_
   refine w_y rfl rfl rfl (zAk isAgg3 hs73.tail.tail.tail.drop rfl rfl hx4) rfl ?_
   refine w_y rfl rfl rfl (zBf rfl rfl rfl rfl (by omega) (by omega)) rfl ?_
   refine w_y rfl rfl rfl (y_shr (x := (setW l i (Ha.ways l 0))) (y := g.toNat + 2) rfl rfl rfl rfl (by first | rfl | omega) (by first | rfl | omega) (by first | omega | exact zB8 (by omega))) rfl ?_
   refine w_y rfl rfl rfl (y_gtr rfl rfl rfl rfl) rfl ?_
   refine w_p (zBb (v := .bool _) rfl rfl rfl rfl) rfl ?_
   refine zAf (zAd (hK76 _ _ ?_))
   refine zAz rfl rfl (fun h79 => ?_) (fun h79 => ?_)
   ·
    try simp only [zS] at h79
    refine zBl (zAo (zA4 (zAd (hK59 _ _ ?_))))
    refine zAb (w_p (zBf rfl rfl rfl rfl (by omega) (by omega)) rfl ?_)
    refine w_p (zAe (v := .int _ _) rfl rfl) rfl ?_
    refine zAf (zAd (hN51 _ _ (Nx.intro (l.bunches.length - (i + 1)) (by omega) (by repeat (first | exact zAv | refine zAu rfl ?_ | refine zAs rfl ?_ _ | refine zAr rfl ?_)) ?_)))
    first
      | exact ⟨i + 1, M68, rfl, by omega, rfl, hM68, by rw [fit_skip (by first | exact .inl (by assumption) | exact .inr (by assumption))]; exact hs73.tail⟩
      | exact ⟨i + 1, M68, rfl, by omega, rfl, hM68, by rw [fit_add (by assumption) (by assumption)]; exact hs73.tail⟩
   try simp only [zS] at h79
   refine zAx (zAd (hK74 _ _ ?_))
   refine zB7 [4] [(0, 1), (1, 0), (2, 0), (3, 0), (4, 3)] zBu (by kernel_rfl) hs73 (fun w80 hs81 => ?_)
   refine zBa rfl zAa rfl hs81 (fun _ hq => (zAk isAgg3 hq rfl rfl (zAj (i := 1) (vs := [_]) rfl rfl))) ?_
   refine zAp rfl zAa rfl (fun _ => (zAe (v := .int _ _) rfl rfl)) ?_
   refine zAp rfl zAa rfl (fun _ => (y_shl (x := 1) (y := i) rfl rfl rfl rfl rfl (by first | rfl | omega) (by first | omega | exact zB8 (by omega)) (by first | omega | exact zB8 (by omega)))) ?_
   refine zAp rfl zAa rfl (fun _ => (y_or (x := (fitTo l g.toNat (Ha.ways l 0) i)) (y := 1 <<< i) rfl rfl rfl rfl (by first | rfl | omega) (by first | rfl | omega) (by first | omega | exact zB8 (by omega)) (by first | omega | exact zB8 (by omega)))) ?_
   refine zC8 rfl ?_
   refine zA5 (i := 1) (v := .int _ _) (vs := [_]) zAa sizeOf3 rfl rfl rfl rfl rfl (by simp [Value.oneCell']) hs81 rfl (Nat.le_of_ble_eq_true rfl) (fun w82 hs83 => ?_)
   refine zAf (qn ?_)
   refine zB1 ?_
   refine zAl (zAd (hK59 _ _ ?_))
   refine zAb (w_p (zBf rfl rfl rfl rfl (by omega) (by omega)) rfl ?_)
   refine w_p (zAe (v := .int _ _) rfl rfl) rfl ?_
   refine zAf (zAd (hN51 _ _ (Nx.intro (l.bunches.length - (i + 1)) (by omega) (by repeat (first | exact zAv | refine zAu rfl ?_ | refine zAs rfl ?_ _ | refine zAr rfl ?_)) ?_)))
   first
     | exact ⟨i + 1, M68, rfl, by omega, rfl, hM68, by rw [fit_skip (by first | exact .inl (by assumption) | exact .inr (by assumption))]; exact hs83.tail⟩
     | exact ⟨i + 1, M68, rfl, by omega, rfl, hM68, by rw [fit_add (by assumption) (by assumption)]; exact hs83.tail⟩
  try simp only [zS] at h58
  refine zBl (zAo (zAo (zA4 (zAd (hK47 _ _ ?_)))))
  refine zAg (fun K85 hK84 => ?_)
  have hin : i = l.bunches.length := by omega
  subst hin
  refine zAb (w_p (zAh (o := 1) (i := 1) underlying26 rfl sizeOf23 rfl rfl rfl) rfl ?_)
  refine w_p (zAk isAgg23 hs.tail.tail.drop rfl rfl (show Ats _ _ _ _ [_] from Ats.part hx3 1 1)) rfl ?_
  refine w_p (zBd underlying23 rfl rfl) rfl ?_
  refine w_p (zB9 (fv := []) (cv := [_, _, _, _]) rfl rfl rfl rfl) rfl ?_
  refine zAt zAa call63 rfl rfl rfl rfl (c63 l.bunches.length (by omega) (.func (.func 64) #[] #[.pointer (some ⟨b40, 0, none⟩), .pointer (some ⟨b29, 0, none⟩), .pointer (some ⟨b3, 0, none⟩), .pointer (some ⟨b9, 0, none⟩)]) (pickDo l g.toNat m) (fun b X w hb hs => zC4 call64 ((c64 l p lb mm hk.app.cons.cons.app g m b (by have := shl_lt64 hk.ok.lb; omega) _ _ _ _ (Ats.app (zAj (i := 0) (vs := [_]) rfl rfl)) (Ats.app (zAj (i := 1) (vs := [_]) rfl rfl)) hx3.app.cons.cons.app hx5.app.cons.cons.app hs).mono (fun v w2 h => ⟨h.1, [], h.2⟩))) hs) ?_
  rintro _ w87 ⟨B, aL, cL, rfl, hslB, hs88⟩
  replace hs88 := (show St _ _ (B ++ (_ :: _ :: M ++ (_ :: _ :: _ :: _ :: F))) from hs88)
  refine w_p (zAe (v := .tuple _) rfl rfl) rfl ?_
  refine w_p (zAq (v := .slice _ _ _) rfl rfl rfl) rfl ?_
  refine w_p (zAq (v := .bool _) rfl rfl rfl) rfl ?_
  refine w_p (zAc (v := .slice _ _ _) rfl rfl) rfl ?_
  refine w_p (zAc (v := .bool _) rfl rfl) rfl ?_
  refine zAf (zAd (hK84 _ _ ?_))
  refine zAg (fun K90 hK89 => ?_)
  refine zAg (fun K92 hK91 => ?_)
  refine zAb (w_p (zAe (v := .bool _) rfl rfl) rfl ?_)
  refine w_p (zDc rfl rfl) rfl ?_
  refine zAf (zAd (hK91 _ _ ?_))
  refine zAz rfl rfl (fun h93 => ?_) (fun h93 => ?_)
  ·
   try simp only [zS] at h93
   refine zAg (fun K95 hK94 => ?_)
   refine zAb (w_p (zAc (v := _) rfl rfl) rfl ?_)
   refine w_p (zAc (v := _) rfl rfl) rfl ?_
   refine zAf (zAd (hK94 _ _ ?_))
   refine zA2 (zAm (q_ng_ret ?_))
   refine zA3 (l := [.tmp 6, .tmp 7]) (vs := [_, _]) rfl ⟨⟨rfl, show _ = (.slice _ _ _ : Value) from rfl⟩, ⟨rfl, (rfl : _ = Value.int _ _)⟩, trivial⟩ ?_
   first
     | (have hq : pickP l g m = ((fewest (pickDo l g.toNat m) l.bunches.length).1, 0) := by unfold pickP; rw [if_neg (by simp [hee]), if_pos (by assumption)]
        exact ⟨B, aL, cL, by rw [hq]; rfl, by rw [hq]; exact hslB, (zDl (zDl (zDl (zDl (kq_opq (zDl (zDl hs88)))))))⟩)
     | (have hq : pickP l g m = ([], 9) := by unfold pickP; rw [if_neg (by simp [hee]), if_neg (by simp; assumption)]
        exact ⟨[], none, 0, by rw [hq]; rfl, by rw [hq]; exact Sl.nil _ _, hs88.drop.tail.tail.drop.tail.tail.tail.tail⟩)
  try simp only [zS] at h93
  refine zAx (zAd (hK89 _ _ ?_))
  refine zAg (fun K97 hK96 => ?_)
  refine zAb (w_p (zAe (v := .slice _ _ _) rfl rfl) rfl ?_)
  refine w_p (zAc (v := .slice _ _ _) rfl rfl) rfl ?_
  refine w_p (zAc (v := _) rfl rfl) rfl ?_
  refine zAf (zAd (hK96 _ _ ?_))
  refine zA2 (q_ng_ret ?_)
  refine zA3 (l := [.tmp 6, .tmp 7]) (vs := [_, _]) rfl ⟨⟨rfl, show _ = (.slice _ _ _ : Value) from rfl⟩, ⟨rfl, (rfl : _ = Value.int _ _)⟩, trivial⟩ ?_
  first
    | (have hq : pickP l g m = ((fewest (pickDo l g.toNat m) l.bunches.length).1, 0) := by unfold pickP; rw [if_neg (by simp [hee]), if_pos (by assumption)]
       exact ⟨B, aL, cL, by rw [hq]; rfl, by rw [hq]; exact hslB, (zDl (zDl (zDl (zDl (kq_opq (zDl (zDl hs88)))))))⟩)
    | (have hq : pickP l g m = ([], 9) := by unfold pickP; rw [if_neg (by simp [hee]), if_neg (by simp; assumption)]
       exact ⟨[], none, 0, by rw [hq]; rfl, by rw [hq]; exact Sl.nil _ _, hs88.drop.tail.tail.drop.tail.tail.tail.tail⟩)

theorem c67 {w0 w : World} {F : List (Nat × Obj)} (l : Lot) (p : At3) (hm : LIn w0 F l p) (hc : (check l).2.2 = 0) (b : Nat) (hb : b < 1000) (bc : Nat) (h1 : Ats w0 F bc 0 (l.cells p)) (hs : St w0 w F) :
  Con Tryz.prog 67 [.int .i64 (b : Int), .pointer (some ⟨bc, 0, none⟩)] w fun v w' => v = .bool (!(Ha.ways l b).isEmpty) ∧ ∃ Y, St w0 w' (Y ++ F) := by
  refine zAw (n := 8) func67 rfl rfl (Nat.le_of_ble_eq_true rfl) ?_
  refine zAg (fun K2 hK1 => ?_)
  refine zAb (w_p (zAc (v := _) rfl rfl) rfl ?_)
  refine zAf (zAd (hK1 _ _ ?_))
  refine zAg (fun K4 hK3 => ?_)
  refine zAb (w_p (zA6 (vs := [_, _, _]) isAgg26 sizeOf26 hs rfl rfl h1) rfl ?_)
  refine w_p (zAe (v := .int _ _) rfl rfl) rfl ?_
  refine zAt zAa call68 rfl rfl rfl rfl (c68 l p b hs) ?_
  rintro _ w6 ⟨lb, mm, rfl, hs7⟩
  replace hs7 := (show St _ _ (_ :: _ :: F) from hs7)
  have hk := lk_but (but := b) hs7 hm.cons hc hb
  refine zAt zAa call69 rfl rfl rfl rfl (c69 l p b lb mm hk hs7) ?_
  rintro _ w9 ⟨rfl, hs10⟩
  refine w_p (zAc (v := .bool _) rfl rfl) rfl ?_
  refine zAf (zAd (hK3 _ _ ?_))
  refine zA2 (zA3 (l := [.tmp 3]) (vs := [_]) rfl ⟨⟨rfl, (rfl : _ = Value.bool _)⟩, trivial⟩ ?_)
  exact ⟨rfl, [], hs10.tail.tail⟩

theorem c29 {w0 w : World} {F : List (Nat × Obj)} (l : Lot) (p : At3) (hm : LIn w0 F l p)  (hs : St w0 w F) :
  Con Tryz.prog 29 [.agg (l.cells p).toArray] w fun v w' => ∃ B a c, v = .tuple #[.slice a (wrongP l).1.length c, .int .i64 (wrongP l).2] ∧ Sl w0 B a 1 ((wrongP l).1.map fun x => [Value.int .i64 x]) ∧ St w0 w' (B ++ F) := by
  refine zAw (n := 27) func29 rfl rfl (Nat.le_of_ble_eq_true rfl) ?_
  refine zAg (fun K2 hK1 => ?_)
  refine zAb (zB3 (v := .agg #[.slice _ _ _, .slice _ _ _, .slice _ _ _]) (cs := [_, _, _]) zAa rfl rfl rfl hs (fun b3 w4 hs5 => ?_))
  refine w_p (zAc (v := _) rfl rfl) rfl ?_
  refine w_p (zAc (v := _) rfl rfl) rfl ?_
  refine zAf (zAd (hK1 _ _ ?_))
  refine zAg (fun K7 hK6 => ?_)
  refine zAg (fun K9 hK8 => ?_)
  refine zAb (w_p (zA6 (vs := [_, _, _]) isAgg26 sizeOf26 hs5 rfl rfl (zAj (i := 0) (vs := [_, _, _]) rfl rfl)) rfl ?_)
  refine zAt zAa call66 rfl rfl rfl rfl (c66 l _ hm.cons hs5) ?_
  rintro _ w11 ⟨rfl, hs12⟩
  refine w_p (zAe (v := .tuple _) rfl rfl) rfl ?_
  refine w_p (zAq (v := .int _ _) rfl rfl rfl) rfl ?_
  refine w_p (zAq (v := .int _ _) rfl rfl rfl) rfl ?_
  refine w_p (zAq (v := .int _ _) rfl rfl rfl) rfl ?_
  refine w_p (zAc (v := .int _ _) rfl rfl) rfl ?_
  refine w_p (zAc (v := .int _ _) rfl rfl) rfl ?_
  refine w_p (zAc (v := .int _ _) rfl rfl) rfl ?_
  refine zAf (zAd (hK8 _ _ ?_))
  refine zAg (fun K14 hK13 => ?_)
  refine zAb (w_p (zAe (v := .int _ _) rfl rfl) rfl ?_)
  refine w_p (zCc rfl rfl rfl rfl) rfl ?_
  refine zAf (zAd (hK13 _ _ ?_))
  refine zAz rfl rfl (fun h15 => ?_) (fun h15 => ?_)
  ·
   try simp only [zS] at h15
   refine zAg (fun K17 hK16 => ?_)
   refine zAb (w_p (zAe (v := .int _ _) rfl rfl) rfl ?_)
   refine w_p (zAc (v := _) rfl rfl) rfl ?_
   refine w_p (zAc (v := .int _ _) rfl rfl) rfl ?_
   refine zAf (zAd (hK16 _ _ ?_))
   refine zA2 (zAm (zA3 (l := [.tmp 2, .tmp 3]) (vs := [_, _]) rfl ⟨⟨rfl, show _ = (.slice _ _ _ : Value) from rfl⟩, ⟨rfl, (rfl : _ = Value.int _ _)⟩, trivial⟩ ?_))
   first
     | (have hq : wrongP l = ([], (check l).2.2) := by unfold wrongP; rw [if_pos (by assumption)]
        exact ⟨[], none, 0, by rw [hq]; rfl, by rw [hq]; exact Sl.nil _ _, hs12.tail⟩)
     | (have hq : wrongP l = ((fewest (fun b => !(Ha.ways l b).isEmpty) l.counts.length).1, 0) := by unfold wrongP; rw [if_neg (by simp; assumption)]
        exact ⟨B, aL, cL, by rw [hq]; rfl, by rw [hq]; exact hslB, hs12⟩)
  try simp only [zS] at h15
  refine zAx (zAd (hK6 _ _ ?_))
  refine zAg (fun K19 hK18 => ?_)
  have hok := check_ok (by assumption)
  have hlc := hok.lc
  refine zAb (w_p (zAh (o := 2) (i := 2) underlying26 rfl sizeOf24 rfl rfl rfl) rfl ?_)
  refine w_p (zAk isAgg24 hs12 rfl rfl (zAj (i := 0) (vs := [_]) rfl rfl)) rfl ?_
  refine w_p (zBd underlying24 rfl rfl) rfl ?_
  refine w_p (zB9 (fv := []) (cv := [_]) rfl rfl rfl rfl) rfl ?_
  refine zAt zAa call63 rfl rfl rfl rfl (c63 l.counts.length (by omega) (.func (.func 67) #[] #[.pointer (some ⟨b3, 0, none⟩)]) (fun b => !(Ha.ways l b).isEmpty) (fun b X w hb hs => zC4 call67 (c67 l p hm.cons.app (by assumption) b (by have := shl_lt64 (n := l.counts.length) (by omega); omega) _ (Ats.app (zAj (i := 0) (vs := l.cells p) rfl rfl)) hs)) hs12) ?_
  rintro _ w21 ⟨B, aL, cL, rfl, hslB, hs22⟩
  replace hs22 := (show St _ _ (B ++ (_ :: F)) from hs22)
  refine w_p (zAe (v := .tuple _) rfl rfl) rfl ?_
  refine w_p (zAq (v := .slice _ _ _) rfl rfl rfl) rfl ?_
  refine w_p (zAq (v := .bool _) rfl rfl rfl) rfl ?_
  refine w_p (zAc (v := .slice _ _ _) rfl rfl) rfl ?_
  refine w_p (zAc (v := .bool _) rfl rfl) rfl ?_
  refine zAf (zAd (hK18 _ _ ?_))
  refine zAg (fun K24 hK23 => ?_)
  refine zAb (w_p (zAe (v := .slice _ _ _) rfl rfl) rfl ?_)
  refine w_p (zAc (v := .slice _ _ _) rfl rfl) rfl ?_
  refine w_p (zAc (v := _) rfl rfl) rfl ?_
  refine zAf (zAd (hK23 _ _ ?_))
  refine zA2 (zA3 (l := [.tmp 2, .tmp 3]) (vs := [_, _]) rfl ⟨⟨rfl, show _ = (.slice _ _ _ : Value) from rfl⟩, ⟨rfl, (rfl : _ = Value.int _ _)⟩, trivial⟩ ?_)
  first
    | (have hq : wrongP l = ([], (check l).2.2) := by unfold wrongP; rw [if_pos (by assumption)]
       exact ⟨[], none, 0, by rw [hq]; rfl, by rw [hq]; exact Sl.nil _ _, hs22.drop.tail⟩)
    | (have hq : wrongP l = ((fewest (fun b => !(Ha.ways l b).isEmpty) l.counts.length).1, 0) := by unfold wrongP; rw [if_neg (by simp; assumption)]
       exact ⟨B, aL, cL, by rw [hq]; rfl, by rw [hq]; exact hslB, (zDl hs22)⟩)

end Go.Proofs.Hn
set_option maxRecDepth 20000
namespace Go.Proofs.Hn
open Go.Proofs.Tryz
open Go.Rt Go.Rt.Ha
attribute [local irreducible] WL WC Con Yd At Ats Sl Agree DW

theorem next_yes {ws : List (List Int)} {k : Nat} (h : leftW k ws < ws.length) (h2 : (Ha.nextTo ws k).1 < 0 ∨ leftW k ws < (Ha.nextTo ws k).2) : Ha.nextTo ws (k + 1) = ((k : Int), leftW k ws) := by simp only [Ha.nextTo]; rw [if_pos ⟨h, h2⟩]
theorem next_no {ws : List (List Int)} {k : Nat} (h : ¬ leftW k ws < ws.length ∨ (¬ (Ha.nextTo ws k).1 < 0 ∧ ¬ leftW k ws < (Ha.nextTo ws k).2)) : Ha.nextTo ws (k + 1) = Ha.nextTo ws k := by simp only [Ha.nextTo]; rw [if_neg (by rintro ⟨h1, h2⟩; omega)]
theorem left_max (b : Nat) (ws : List (List Int)) : maxTo (oftL b ws) ((oftL b ws).length - 1) = leftW b ws := by
  rw [oft_len]
  have key : ∀ n, n < 13 → maxTo (oftL b ws) n = mostTo b ws (n + 1) := by
    intro n
    induction n with
    | zero => intro _; simp only [maxTo, mostTo]; rw [oft_get (by omega)]; have := (often_in b ((0 : Nat) : Int) ws).1; omega
    | succ n ih => intro h; simp only [maxTo]; rw [ih (by omega), oft_get (by omega)]; rfl
  exact key 12 (by omega)
theorem left_in (b : Nat) (ws : List (List Int)) : 0 ≤ leftW b ws ∧ leftW b ws ≤ ws.length := by
  have key : ∀ n, 0 ≤ mostTo b ws n ∧ mostTo b ws n ≤ ws.length := by
    intro n
    induction n with
    | zero => simp [mostTo]
    | succ n ih => have := often_in b (n : Int) ws; simp only [mostTo]; omega
  exact key 13
theorem oft_cells {b8 b7 : Nat} {x y : Int} {l m : List Int} (h : x = y) (h2 : l = m) : [(b8, blk 3 [.int .i64 x]), (b7, blk 124 (iv l))] = ([(b8, blk 3 [.int .i64 y]), (b7, blk 124 (iv m))] : List (Nat × Obj)) := by subst h h2; rfl
theorem next_back {w0 w : World} {bd : Nat} {bs : List Nat} {R : List (Nat × Obj)} {a b c d : Nat × Obj} (h : St w0 w ((bd, .deferred (some [])) :: a :: b :: c :: d :: (dfs bs ++ R))) : St w0 w (dfs (bd :: bs) ++ R) := kp_own (kp_own (kp_own (kp_own h)))
theorem c28 {w0 w : World} {F : List (Nat × Obj)} (l : Lot) (p : At3) (hm : LIn w0 F l p)  (hs : St w0 w F) :
  Con Tryz.prog 28 [.agg (l.cells p).toArray] w fun v w' => v = .tuple #[.int .i64 (nextP l).1, .int .i64 (nextP l).2.1, .int .i64 (nextP l).2.2] ∧ St w0 w' F := by
  refine zDe (n := 58) func28 rfl rfl (Nat.le_of_ble_eq_true rfl) ?_
  have hlb0 := hm.lb
  refine zAg (fun K2 hK1 => ?_)
  refine zAb (zB3 (v := .agg #[.slice _ _ _, .slice _ _ _, .slice _ _ _]) (cs := [_, _, _]) zAa rfl rfl rfl hs (fun b3 w4 hs5 => ?_))
  refine w_p (zAc (v := _) rfl rfl) rfl ?_
  refine w_p (zAc (v := _) rfl rfl) rfl ?_
  refine w_p (zAc (v := _) rfl rfl) rfl ?_
  refine zAf (zAd (hK1 _ _ ?_))
  refine zAg (fun K7 hK6 => ?_)
  refine zAb (w_p (zA6 (vs := [_, _, _]) isAgg26 sizeOf26 hs5 rfl rfl (zAj (i := 0) (vs := [_, _, _]) rfl rfl)) rfl ?_)
  refine zAt zAa call44 rfl rfl rfl rfl (c44 l p hm.cons (.func (.func 60) #[] #[]) 0 (fun X w hs => zC4 call60 (c60 hs)) hs5) ?_
  rintro _ w9 (⟨hee, rfl, hs10⟩ | ⟨hee, lb, mm, M, rfl, hM, hs10⟩)
  ·
   refine w_p (zAe (v := .tuple _) rfl rfl) rfl ?_
   refine w_p (zAq (v := .pointer _) rfl rfl rfl) rfl ?_
   refine w_p (zAq (v := .int _ _) rfl rfl rfl) rfl ?_
   refine w_p (zAc (v := .pointer _) rfl rfl) rfl ?_
   refine w_p (zAc (v := .int _ _) rfl rfl) rfl ?_
   refine zAf (zAd (hK6 _ _ ?_))
   refine zAg (fun K12 hK11 => ?_)
   refine zAg (fun K14 hK13 => ?_)
   refine zAb (w_p (zAe (v := .int _ _) rfl rfl) rfl ?_)
   refine w_p (zCc rfl rfl rfl rfl) rfl ?_
   refine zAf (zAd (hK13 _ _ ?_))
   refine zAz rfl rfl (fun h15 => ?_) (fun h15 => ?_)
   ·
    try simp only [zS] at h15
    refine zAg (fun K17 hK16 => ?_)
    refine zAb (w_p (zAe (v := .int _ _) rfl rfl) rfl ?_)
    refine w_p (zAc (v := _) rfl rfl) rfl ?_
    refine w_p (zAc (v := _) rfl rfl) rfl ?_
    refine w_p (zAc (v := .int _ _) rfl rfl) rfl ?_
    refine zAf (zAd (hK16 _ _ ?_))
    refine zA2 (zAm (q_retM0 (l := [.tmp 2, .tmp 3, .tmp 4]) (vs := [_, _, _]) rfl ⟨⟨rfl, (rfl : _ = Value.int _ _)⟩, ⟨rfl, (rfl : _ = Value.int _ _)⟩, ⟨rfl, (rfl : _ = Value.int _ _)⟩, trivial⟩ ?_))
    exact ⟨by unfold nextP; rw [if_pos hee]; rfl, hs10.tail⟩
   exfalso
   try simp only [zS] at h15
   first | exact hee h15 | exact h15 hee
  replace hs10 := (show St _ _ (M ++ (_ :: _ :: F)) from hs10)
  have hk := lk_new hs10 hm.cons (zBz hee).1
  have hew := zBz hee
  have hbt := hk.bt
  have hlg := hk.ok.lg
  have hlb := hk.ok.lb
  have hlc := hk.ok.lc
  refine w_p (zAe (v := .tuple _) rfl rfl) rfl ?_
  refine w_p (zAq (v := .pointer _) rfl rfl rfl) rfl ?_
  refine w_p (zAq (v := .int _ _) rfl rfl rfl) rfl ?_
  refine w_p (zAc (v := .pointer _) rfl rfl) rfl ?_
  refine w_p (zAc (v := .int _ _) rfl rfl) rfl ?_
  refine zAf (zAd (hK6 _ _ ?_))
  refine zAg (fun K19 hK18 => ?_)
  refine zAg (fun K21 hK20 => ?_)
  refine zAb (w_p (zAe (v := .int _ _) rfl rfl) rfl ?_)
  refine w_p (zCc rfl rfl rfl rfl) rfl ?_
  refine zAf (zAd (hK20 _ _ ?_))
  refine zB0 rfl rfl ?_
  refine zAx (zAd (hK18 _ _ ?_))
  refine zAg (fun K23 hK22 => ?_)
  refine zAb (w_p (zAc (v := _) rfl rfl) rfl ?_)
  refine zAf (zAd (hK22 _ _ ?_))
  refine zAg (fun K25 hK24 => ?_)
  refine zAg (fun K27 hK26 => ?_)
  have hx1 : Ats w0 ((lb, blk 141 [.slice p.ag l.grades.length p.cg, .slice p.ab l.bunches.length p.cb, .slice p.ac l.counts.length p.cc, .int .i64 ((0 : Nat) : Int), .map (some mm)]) :: (b3, blk 26 (l.cells p)) :: F) b3 0 (l.cells p) := zAj (i := 1) rfl rfl
  have hwl := ways_len hk.ok 0
  refine zAb (w_p (zAh (o := 1) (i := 1) underlying26 rfl sizeOf23 rfl rfl rfl) rfl ?_)
  refine w_p (zAk isAgg23 hs10.drop rfl rfl (show Ats _ _ _ _ [_] from Ats.part hx1 1 1)) rfl ?_
  refine w_p (zBd underlying23 rfl rfl) rfl ?_
  refine w_p (zAe (v := _) rfl rfl) rfl ?_
  refine zAf (zAd (hK26 _ _ ?_))
  refine zAy ?_
  refine w_loopD [2, 3, 6, 7, 8, 10, 22, 23, 24, 25, 26, 37, 38, 39, 40, 41, 42, 43, 44, 45, 46, 47, 48, 49, 50, 51, 52, 53] [2, 3, 22] (fun k vs bs w => ∃ (q : Nat), vs = [.int .i64 (Ha.nextTo (Ha.ways l 0) q).1, .int .i64 (Ha.nextTo (Ha.ways l 0) q).2, .int .i64 q] ∧ q ≤ l.bunches.length ∧ k = l.bunches.length - q ∧ St w0 w (dfs bs ++ (M ++ ((lb, blk 141 [.slice p.ag l.grades.length p.cg, .slice p.ab l.bunches.length p.cb, .slice p.ac l.counts.length p.cc, .int .i64 ((0 : Nat) : Int), .map (some mm)]) :: (b3, blk 26 (l.cells p)) :: F)))) (l.bunches.length) [] ?_ ?_
  ·
   exact ⟨0, rfl, by omega, by omega, hs10⟩
  intro k vs μ bs w30 hI K29 hN28
  obtain ⟨q, rfl, hqa, rfl, hs⟩ := hI
  refine zAg (fun K32 hK31 => ?_)
  refine zAb (w_p (zBt rfl rfl rfl rfl) rfl ?_)
  refine zAf (zAd (hK31 _ _ ?_))
  refine zAg (fun K34 hK33 => ?_)
  refine zAz rfl rfl (fun h35 => ?_) (fun h35 => ?_)
  ·
   try simp only [zS] at h35
   refine zAx (zAd (hK33 _ _ ?_))
   refine zAg (fun K37 hK36 => ?_)
   refine zAy ?_
   refine zAg (fun K39 hK38 => ?_)
   have hq2 : q < l.bunches.length := by omega
   have hli := left_in q (Ha.ways l 0)
   refine zAb (w_p (zAe (v := .int _ _) rfl rfl) rfl ?_)
   refine zA9 (cs := [_]) zAa zeroValue3 rfl hs (fun b40 w41 hs42 => ?_)
   refine zA5 (i := 0) (v := .int _ _) (vs := [_]) zAa sizeOf3 rfl rfl rfl rfl rfl (by simp [Value.oneCell']) hs42 rfl (Nat.le_of_ble_eq_true rfl) (fun w43 hs44 => ?_)
   refine zAf (zAd (hK38 _ _ ?_))
   refine zAg (fun K46 hK45 => ?_)
   refine zAb (zA9 (cs := iv [0, 0, 0, 0, 0, 0, 0, 0, 0, 0, 0, 0, 0]) zAa zeroValue124 rfl hs44 (fun b47 w48 hs49 => ?_))
   refine zAf (zAd (hK45 _ _ ?_))
   refine zAg (fun K51 hK50 => ?_)
   refine zAb (zA9 (cs := [_]) zAa zeroValue3 rfl hs49 (fun b52 w53 hs54 => ?_))
   refine zA5 (i := 0) (v := .int _ _) (vs := [_]) zAa sizeOf3 rfl rfl rfl rfl rfl (by simp [Value.oneCell']) hs54 rfl (Nat.le_of_ble_eq_true rfl) (fun w55 hs56 => ?_)
   refine zAf (zAd (hK50 _ _ ?_))
   refine zAg (fun K58 hK57 => ?_)
   refine zAg (fun K60 hK59 => ?_)
   refine zAb (w_p (zAe (v := .pointer _) rfl rfl) rfl ?_)
   refine zAt zAa call46 rfl rfl rfl rfl (c46 _ hs56) ?_
   rintro _ w62 ⟨bp, rfl, hs63⟩
   refine zAf (zAd (hK59 _ _ ?_))
   refine zAy ?_
   refine w_range ([_, _]) (fun i Bx => Bx = [(b52, blk 3 [.int .i64 (i : Int)]), (b47, blk 124 (iv (oftL q ((Ha.ways l 0).take i))))]) (fun _ _ => False) rfl rfl rfl call80 (ways_iter l p 0 lb mm hk.app.app.cons.cons bp (zAj (i := 0) (vs := [_]) rfl rfl)) hs63 (zBe [_] [_, _] _) rfl ?_ ?_ ?_
   ·
    intro lp i hi Bx Xr Xr2 w65 hJ hs K hK64
    subst hJ
    have hi2 : i < (Ha.ways l 0).length := by simpa using hi
    rw [List.getElem_map, List.getElem_map]
    have hpl := padw_len hk.ok (List.mem_map.2 ⟨_, List.getElem_mem hi2, rfl⟩)
    have hat := pad6_at (Ha.ways l 0)[i] q
    have hwi := way_in hk.ok (List.getElem_mem hi2) q
    obtain ⟨h, hh⟩ : ∃ h, h = pad6 (Ha.ways l 0)[i] := ⟨_, rfl⟩
    rw [← hh] at hpl hat ⊢
    rw [← hat] at hwi
    have hh6 := hpl.1
    have hol := oft_len q ((Ha.ways l 0).take i)
    have hog := often_in q ((h.getD q 0).toNat : Int) ((Ha.ways l 0).take i)
    have hol2 : ((Ha.ways l 0).take i).length ≤ 4096 := by rw [List.length_take]; omega
    rw [← oft_get (by omega)] at hog
    have hx6 : Ats w0 ((bp, blk 90 [.pointer (some ⟨lb, 0, none⟩)]) :: (b40, blk 3 [.int .i64 (q : Int)]) :: ((dfs bs) ++ (M ++ ((lb, blk 141 [.slice p.ag l.grades.length p.cg, .slice p.ab l.bunches.length p.cb, .slice p.ac l.counts.length p.cc, .int .i64 ((0 : Nat) : Int), .map (some mm)]) :: (b3, blk 26 (l.cells p)) :: F)))) b40 0 [.int .i64 (q : Int)] := zAj (i := 1) rfl rfl
    replace hs := (show St _ _ (_ :: _ :: (Xr ++ (_ :: _ :: (dfs bs ++ (M ++ (_ :: _ :: F)))))) from hs)
    refine zAb (zA9 (cs := iv [0, 0, 0, 0, 0, 0]) zAa zeroValue99 rfl hs (fun b66 w67 hs68 => ?_))
    refine zCa (i := 0) (l := _) zAa sizeOf99 (by first | omega | rfl | (simp only [hh6, hol, oft_len, List.length_map, List.length_set, List.length_append, List.length_take, List.length_drop, List.length_replicate, List.length_cons, List.length_nil] <;> omega)) rfl rfl rfl rfl rfl hs68 rfl (by first | omega | rfl | (simp only [hh6, hol, oft_len, List.length_map, List.length_set, List.length_append, List.length_take, List.length_drop, List.length_replicate, List.length_cons, List.length_nil] <;> omega)) (fun w69 hs70 => ?_)
    refine zAf (zAd (hK64 _ _ (_ :: _ :: _ :: []) hs70 (fun w71 hs72 => ?_)))
    replace hs72 := (show St _ _ (_ :: _ :: _ :: Xr2 ++ (_ :: _ :: (dfs bs) ++ (M ++ (_ :: _ :: F)))) from hs72)
    refine zAy ?_
    refine zAg (fun K74 hK73 => ?_)
    refine zAb (w_p (zAk isAgg3 hs72.tail.tail.tail.drop rfl rfl hx6) rfl ?_)
    refine w_p (zB2 underlying99 sizeOf3 rfl rfl rfl rfl (i := q) (by first | rfl | omega) (by omega)) rfl ?_
    refine w_p (zAk isAgg3 hs72 rfl rfl (zCb (i := 0) (j := q) rfl (by first | omega | rfl | (simp only [hh6, hol, oft_len, List.length_map, List.length_set, List.length_append, List.length_take, List.length_drop, List.length_replicate, List.length_cons, List.length_nil] <;> omega)))) rfl ?_
    refine w_p (zB2 underlying124 sizeOf3 rfl rfl rfl rfl (i := (h.getD q 0).toNat) (by first | rfl | omega) (by omega)) rfl ?_
    refine w_p (zAk isAgg3 hs72 rfl rfl (zCb (i := 2) (j := (h.getD q 0).toNat) rfl (by first | omega | rfl | (simp only [hh6, hol, oft_len, List.length_map, List.length_set, List.length_append, List.length_take, List.length_drop, List.length_replicate, List.length_cons, List.length_nil] <;> omega)))) rfl ?_
    refine w_p (zBf rfl rfl rfl rfl (by omega) (by omega)) rfl ?_
    refine w_p (zB2 underlying124 sizeOf3 rfl rfl rfl rfl (i := (h.getD q 0).toNat) (by first | rfl | omega) (by omega)) rfl ?_
    refine w_storeAtI (i := 2) (j := (h.getD q 0).toNat) zAa sizeOf3 rfl rfl rfl rfl hs72 rfl (by first | omega | rfl | (simp only [hh6, hol, oft_len, List.length_map, List.length_set, List.length_append, List.length_take, List.length_drop, List.length_replicate, List.length_cons, List.length_nil] <;> omega)) (fun w75 hs76 => ?_)
    refine zAf (zAd (hK73 _ _ ?_))
    refine zAb (w_p (zAk isAgg3 hs76 rfl rfl (zAj (i := 1) (vs := [_]) rfl rfl)) rfl ?_)
    refine w_p (zBf rfl rfl rfl rfl (by omega) (by omega)) rfl ?_
    refine zA5 (i := 1) (v := .int _ _) (vs := [_]) zAa sizeOf3 rfl rfl rfl rfl rfl (by simp [Value.oneCell']) hs76 rfl (Nat.le_of_ble_eq_true rfl) (fun w77 hs78 => ?_)
    refine zAf (zAl (zCr (_ :: _ :: []) hs78.tail ?_))
    exact oft_cells (by omega) (oft_take hi2 (by rw [← hat]; omega) (by omega))
   ·
    intro bd Bx w79 hJ hs
    subst hJ
    rw [List.length_map, List.length_map, List.take_length] at hs
    replace hs := (show St _ _ (_ :: _ :: _ :: _ :: _ :: (dfs bs ++ (M ++ (_ :: _ :: F)))) from hs)
    refine zAl (zAd (hK57 _ _ ?_))
    refine zAg (fun K81 hK80 => ?_)
    refine zAb (w_p (y_sliceA underlying124 sizeOf3 rfl rfl) rfl ?_)
    refine zAt zAa call65 rfl rfl rfl rfl ((by have h := c65 _ (oftL q (Ha.ways l 0)) 13 (by rw [oft_len]; omega) (by rw [oft_len]; omega) (zDh (i := 2) rfl) hs; rw [left_max, oft_len] at h; exact h)) ?_
    rintro _ w83 ⟨rfl, hs84⟩
    refine w_p (zAc (v := .int _ _) rfl rfl) rfl ?_
    refine zAf (zAd (hK80 _ _ ?_))
    refine zAg (fun K86 hK85 => ?_)
    refine zAb (w_p (zAe (v := .int _ _) rfl rfl) rfl ?_)
    refine w_p (zAk isAgg3 hs84 rfl rfl (zAj (i := 1) (vs := [_]) rfl rfl)) rfl ?_
    refine w_p (zBt rfl rfl rfl rfl) rfl ?_
    refine w_p (zAe (v := .bool _) rfl rfl) rfl ?_
    refine zBi (fun h87 => ?_) (fun h87 => ?_)
    ·
     try simp only [zS] at h87
     refine w_y rfl rfl rfl (zAe (v := .int _ _) rfl rfl) rfl ?_
     refine w_y rfl rfl rfl (zBt rfl rfl rfl rfl) rfl ?_
     refine w_y rfl rfl rfl (zAe (v := .bool _) rfl rfl) rfl ?_
     refine zBi (fun h88 => ?_) (fun h88 => ?_)
     ·
      try simp only [zS] at h88
      refine zAi rfl rfl rfl ?_
      refine zAi rfl rfl rfl ?_
      refine zAi rfl rfl rfl ?_
      refine w_y rfl rfl rfl (zA0 (v := _) rfl rfl rfl rfl) rfl ?_
      refine w_p (zA0 (v := .bool _) rfl rfl rfl rfl) rfl ?_
      refine zAf (zAd (hK85 _ _ ?_))
      refine zCg rfl rfl ?_
      refine zAb (w_p (zAk isAgg3 hs84 rfl rfl (zAj (i := 4) (vs := [_]) rfl rfl)) rfl ?_)
      refine w_p (zAe (v := .int _ _) rfl rfl) rfl ?_
      refine w_p (zAc (v := .int _ _) rfl rfl) rfl ?_
      refine w_p (zAc (v := .int _ _) rfl rfl) rfl ?_
      refine zAf (zAl (zAd (hK36 _ _ ?_)))
      refine zAb (w_p (zBf rfl rfl rfl rfl (by omega) (by omega)) rfl ?_)
      refine w_p (zAe (v := .int _ _) rfl rfl) rfl ?_
      refine zAf (zAd (hN28 _ _ (NxD.intro (bd :: bs) (l.bunches.length - (q + 1)) (by omega) (by repeat (first | exact zAv | refine zAu rfl ?_ | refine zAs rfl ?_ _ | refine zAr rfl ?_)) ?_)))
      first
        | (have hn := next_yes (ws := (Ha.ways l 0)) (k := q) (by omega) (by omega)
           exact ⟨q + 1, iv3 (by rw [hn]) (by rw [hn]) rfl, by omega, rfl, next_back hs84⟩)
        | (have hn := next_no (ws := (Ha.ways l 0)) (k := q) (by omega)
           exact ⟨q + 1, iv3 (by rw [hn]) (by rw [hn]) rfl, by omega, rfl, next_back hs84⟩)
     try simp only [zS] at h88
     refine w_y rfl rfl rfl (zAe (v := .int _ _) rfl rfl) rfl ?_
     refine w_y rfl rfl rfl (zAe (v := .int _ _) rfl rfl) rfl ?_
     refine w_y rfl rfl rfl (zBt rfl rfl rfl rfl) rfl ?_
     refine w_y rfl rfl rfl (zBb (v := .bool _) rfl rfl rfl rfl) rfl ?_
     refine w_p (zA0 (v := .bool _) rfl rfl rfl rfl) rfl ?_
     refine zAf (zAd (hK85 _ _ ?_))
     refine zAz rfl rfl (fun h89 => ?_) (fun h89 => ?_)
     ·
      try simp only [zS] at h89
      refine zAb (w_p (zAk isAgg3 hs84 rfl rfl (zAj (i := 4) (vs := [_]) rfl rfl)) rfl ?_)
      refine w_p (zAe (v := .int _ _) rfl rfl) rfl ?_
      refine w_p (zAc (v := .int _ _) rfl rfl) rfl ?_
      refine w_p (zAc (v := .int _ _) rfl rfl) rfl ?_
      refine zAf (zAl (zAd (hK36 _ _ ?_)))
      refine zAb (w_p (zBf rfl rfl rfl rfl (by omega) (by omega)) rfl ?_)
      refine w_p (zAe (v := .int _ _) rfl rfl) rfl ?_
      refine zAf (zAd (hN28 _ _ (NxD.intro (bd :: bs) (l.bunches.length - (q + 1)) (by omega) (by repeat (first | exact zAv | refine zAu rfl ?_ | refine zAs rfl ?_ _ | refine zAr rfl ?_)) ?_)))
      first
        | (have hn := next_yes (ws := (Ha.ways l 0)) (k := q) (by omega) (by omega)
           exact ⟨q + 1, iv3 (by rw [hn]) (by rw [hn]) rfl, by omega, rfl, next_back hs84⟩)
        | (have hn := next_no (ws := (Ha.ways l 0)) (k := q) (by omega)
           exact ⟨q + 1, iv3 (by rw [hn]) (by rw [hn]) rfl, by omega, rfl, next_back hs84⟩)
     try simp only [zS] at h89
     refine zAx (zAl (zAd (hK36 _ _ ?_)))
     refine zAb (w_p (zBf rfl rfl rfl rfl (by omega) (by omega)) rfl ?_)
     refine w_p (zAe (v := .int _ _) rfl rfl) rfl ?_
     refine zAf (zAd (hN28 _ _ (NxD.intro (bd :: bs) (l.bunches.length - (q + 1)) (by omega) (by repeat (first | exact zAv | refine zAu rfl ?_ | refine zAs rfl ?_ _ | refine zAr rfl ?_)) ?_)))
     first
       | (have hn := next_yes (ws := (Ha.ways l 0)) (k := q) (by omega) (by omega)
          exact ⟨q + 1, iv3 (by rw [hn]) (by rw [hn]) rfl, by omega, rfl, next_back hs84⟩)
       | (have hn := next_no (ws := (Ha.ways l 0)) (k := q) (by omega)
          exact ⟨q + 1, iv3 (by rw [hn]) (by rw [hn]) rfl, by omega, rfl, next_back hs84⟩)
    try simp only [zS] at h87
    refine zAi rfl rfl rfl ?_
    refine zAi rfl rfl rfl ?_
    refine zAi rfl rfl rfl ?_
    refine zBc rfl rfl rfl ?_
    refine zBc rfl rfl rfl ?_
    refine zBc rfl rfl rfl ?_
    refine zAi rfl rfl rfl ?_
    refine w_p (zBb (v := _) rfl rfl rfl rfl) rfl ?_
    refine zAf (zAd (hK85 _ _ ?_))
    refine zB0 rfl rfl ?_
    refine zAx (zAl (zAd (hK36 _ _ ?_)))
    refine zAb (w_p (zBf rfl rfl rfl rfl (by omega) (by omega)) rfl ?_)
    refine w_p (zAe (v := .int _ _) rfl rfl) rfl ?_
    refine zAf (zAd (hN28 _ _ (NxD.intro (bd :: bs) (l.bunches.length - (q + 1)) (by omega) (by repeat (first | exact zAv | refine zAu rfl ?_ | refine zAs rfl ?_ _ | refine zAr rfl ?_)) ?_)))
    first
      | (have hn := next_yes (ws := (Ha.ways l 0)) (k := q) (by omega) (by omega)
         exact ⟨q + 1, iv3 (by rw [hn]) (by rw [hn]) rfl, by omega, rfl, next_back hs84⟩)
      | (have hn := next_no (ws := (Ha.ways l 0)) (k := q) (by omega)
         exact ⟨q + 1, iv3 (by rw [hn]) (by rw [hn]) rfl, by omega, rfl, next_back hs84⟩)
   intro _ _ _ _ hJ
   exact hJ.elim
  try simp only [zS] at h35
  refine zBl (zAo (zAo (zA4 (zAd (hK24 _ _ ?_)))))
  refine zAg (fun K91 hK90 => ?_)
  refine zAg (fun K93 hK92 => ?_)
  refine zAb (w_p (zAe (v := .int _ _) rfl rfl) rfl ?_)
  refine w_p (zBt rfl rfl rfl rfl) rfl ?_
  refine zAf (zAd (hK92 _ _ ?_))
  refine zAz rfl rfl (fun h94 => ?_) (fun h94 => ?_)
  ·
   try simp only [zS] at h94
   refine zAg (fun K96 hK95 => ?_)
   refine zAb (w_p (zAc (v := _) rfl rfl) rfl ?_)
   refine w_p (zAc (v := _) rfl rfl) rfl ?_
   refine w_p (zAc (v := _) rfl rfl) rfl ?_
   refine zAf (zAd (hK95 _ _ ?_))
   refine zA2 (zAm (q_retMM (l := [.tmp 2, .tmp 3, .tmp 4]) (vs := [_, _, _]) hs rfl (fun w97 hs98 => ⟨⟨⟨rfl, (rfl : _ = Value.int _ _)⟩, ⟨rfl, (rfl : _ = Value.int _ _)⟩, ⟨rfl, (rfl : _ = Value.int _ _)⟩, trivial⟩, ?_⟩)))
   have hqn : q = l.bunches.length := by omega
   subst hqn
   first
     | exact ⟨by unfold nextP; rw [if_neg (by simp [hee]), if_pos (by assumption)]; rfl, hs98.drop.tail.tail⟩
     | exact ⟨by unfold nextP; rw [if_neg (by simp [hee]), if_neg (by omega)]; rfl, hs98.drop.tail.tail⟩
  try simp only [zS] at h94
  refine zAx (zAd (hK90 _ _ ?_))
  refine zAg (fun K100 hK99 => ?_)
  refine zAb (w_p (zAe (v := .int _ _) rfl rfl) rfl ?_)
  refine w_p (zAe (v := .int _ _) rfl rfl) rfl ?_
  refine w_p (zAc (v := .int _ _) rfl rfl) rfl ?_
  refine w_p (zAc (v := .int _ _) rfl rfl) rfl ?_
  refine w_p (zAc (v := _) rfl rfl) rfl ?_
  refine zAf (zAd (hK99 _ _ ?_))
  refine zA2 (q_retMM (l := [.tmp 2, .tmp 3, .tmp 4]) (vs := [_, _, _]) hs rfl (fun w101 hs102 => ⟨⟨⟨rfl, (rfl : _ = Value.int _ _)⟩, ⟨rfl, (rfl : _ = Value.int _ _)⟩, ⟨rfl, (rfl : _ = Value.int _ _)⟩, trivial⟩, ?_⟩))
  have hqn : q = l.bunches.length := by omega
  subst hqn
  first
    | exact ⟨by unfold nextP; rw [if_neg (by simp [hee]), if_pos (by assumption)]; rfl, hs102.drop.tail.tail⟩
    | exact ⟨by unfold nextP; rw [if_neg (by simp [hee]), if_neg (by omega)]; rfl, hs102.drop.tail.tail⟩

end Go.Proofs.Hn
/- Plain words of the hand layer: the document's example. No conditions. -/
namespace Go.Rt.Ha
def nNine : ByteArray := ⟨#[110, 105, 110, 101]⟩
def nEight : ByteArray := ⟨#[101, 105, 103, 104, 116]⟩
def nSeven : ByteArray := ⟨#[115, 101, 118, 101, 110]⟩
def exL (m : List Count) : Lot := ⟨[⟨nNine, 9, 1⟩, ⟨nEight, 8, 3⟩, ⟨nSeven, 7, 3⟩], [⟨9, 10, 0, 0⟩, ⟨8, 9, 1, 2⟩, ⟨7, 8, 0, 4⟩, ⟨6, 7, 2, 2⟩], ⟨3, 18⟩ :: m⟩
theorem ex_hands1 : handsP (exL []) 0 = ((9, 10), 0) := by decide +kernel
theorem ex_grade1 : gradeP (exL []) 2 = ([-1, 1, 2], 0) := by decide +kernel
theorem ex_total1 : totalP (exL []) 0 = ((9, 18), 0) := by decide +kernel
theorem ex_ref1 : refusedP (exL [⟨12, 13⟩]) = ([3], [2, 3], 0) := by decide +kernel
theorem ex_pick1 : pickP (exL []) 1 18 = ([0, 1], 0) := by decide +kernel
theorem ex_pick2 : pickP (exL []) 1 19 = ([], 9) := by decide +kernel
theorem ex_next1 : nextP (exL []) = (0, 4, 0) := by decide +kernel
theorem ex_wrong1 : wrongP (exL [⟨1, 8⟩]) = ([1], 0) := by decide +kernel
theorem ex_hands2 : handsP (exL [⟨1, 8⟩]) 0 = ((0, 0), 8) := by decide +kernel
end Go.Rt.Ha
/- The walking engine, part 16: the check of one order of a region, over numbers as sets of bits. No conditions. -/
namespace Go.Rt
open Go.RowKit
variable {r : Option Nat} {P : Program} {ops : Array Oper} {Q : Exit → Act → World → Prop} {rest : List Oper} {n : Nat} {ρ : Nat → Value} {ds : List Deferred} {w w0 : World} {L : List (Nat × Obj)}
def tb (m i : Nat) : Bool := Nat.beq (Nat.land (Nat.shiftRight m i) 1) 1
theorem tb_eq (m i : Nat) : tb m i = m.testBit i := by
  have h : Nat.land (Nat.shiftRight m i) 1 = (m >>> i) % 2 := by
    show (m >>> i) &&& 1 = _
    exact Nat.and_one_is_mod _
  have h2 : m.testBit i = decide ((m >>> i) % 2 = 1) := by rw [Nat.testBit_eq_decide_div_mod_eq, Nat.shiftRight_eq_div_pow]
  unfold tb
  rw [h, h2, Bool.eq_iff_iff, Nat.beq_eq, decide_eq_true_eq]
def orB (m i : Nat) : Nat := Nat.lor m (Nat.shiftLeft 1 i)
theorem tb_orB (m i j : Nat) : tb (orB m i) j = (tb m j || decide (i = j)) := by
  rw [tb_eq, tb_eq]
  show (m ||| (1 <<< i)).testBit j = _
  rw [Nat.testBit_or, Nat.shiftLeft_eq, Nat.one_mul, Nat.testBit_two_pow]
def maskOf : List Nat → Nat
  | [] => 0
  | x :: l => orB (maskOf l) x
theorem tb_mask (j : Nat) : ∀ l : List Nat, tb (maskOf l) j = l.contains j
  | [] => by simp [maskOf, tb_eq]
  | x :: l => by
    simp only [maskOf, tb_orB, tb_mask j l, List.contains_cons]
    rw [Bool.or_comm]
    congr 1
    rw [Bool.eq_iff_iff]; simp only [decide_eq_true_eq, beq_iff_eq, Nat.beq_eq]; exact eq_comm
def subN (a m : Nat) : Bool := Nat.beq (Nat.land a m) a
theorem sub_iff (a m : Nat) : subN a m = true ↔ ∀ j, tb a j = true → tb m j = true := by
  unfold subN
  rw [Nat.beq_eq]
  constructor
  · intro h j hj
    have h1 : (a &&& m).testBit j = a.testBit j := by rw [show a &&& m = a from h]
    rw [Nat.testBit_and] at h1
    rw [tb_eq] at hj ⊢
    rw [hj] at h1; simpa using h1
  · intro h
    show a &&& m = a
    apply Nat.eq_of_testBit_eq
    intro j
    rw [Nat.testBit_and]
    have := h j
    rw [tb_eq, tb_eq] at this
    cases ha : a.testBit j with
    | false => rfl
    | true => rw [this ha]; rfl
/-- What the check needs of an operation. -/
structure OpS where
  nd : Nat
  dst : Option Nat
  lk : Nat
def opS (ops : Array Oper) (o : Oper) : OpS := ⟨maskOf ((o.after.toList.filter (Region.binds .any)).map (·.on)), o.dst, maskOf (o.looksAt ops)⟩
def sumS (ops : Array Oper) : List OpS := ops.toList.map (opS ops)
def readyN : List OpS → Nat → Nat → List Nat
  | [], _, _ => []
  | x :: s, i, m => bif (!tb m i) && subN x.nd m then i :: readyN s (i + 1) m else readyN s (i + 1) m
def apartN (x y : OpS) : Bool :=
  (match x.dst with | some d => !tb y.lk d && y.dst != some d | none => true) && (match y.dst with | some d => !tb x.lk d | none => true)
def freeN (xi : OpS) (i m : Nat) : List OpS → Nat → Bool
  | [], _ => true
  | y :: s, j => (Nat.beq j i || tb m j || tb y.nd i || apartN xi y) && freeN xi i m s (j + 1)
def closeN (s : List OpS) (i : Nat) : Nat → Nat → Nat
  | 0, m => m
  | k + 1, m => closeN s i k ((readyN s 0 m).foldl (fun m j => bif Nat.beq j i then m else orB m j) m)
def memN (i : Nat) : List Nat → Bool
  | [] => false
  | j :: l => Nat.beq j i || memN i l
def onlyN (i : Nat) : List Nat → Bool
  | [j] => Nat.beq j i
  | _ => false
def drawN (s : List OpS) (n : Nat) (late : List Nat) : List (Nat × Nat) → Nat → Bool
  | [], m => match readyN s 0 m with | [] => true | _ => false
  | (i, t) :: rest, m =>
    (match t with
     | 0 => memN i (readyN s 0 m) && (match s[i]? with | some x => freeN x i m s 0 | none => false) && !memN i late
     | 1 => memN i (readyN s 0 m) && (match s[i]? with | some x => freeN x i m s 0 | none => false) && !memN i late &&
        (let c := closeN s i n m; ((readyN s 0 c).all fun j => Nat.beq j i) && !(late.any fun q => tb c q) && !tb c i && subN m c)
     | 2 => onlyN i (readyN s 0 m) && !memN i late
     | _ => onlyN i (readyN s 0 m) && memN i late) && drawN s n late rest (orB m i)
def drawOKN (ops : Array Oper) (late : List Nat) (ord : List (Nat × Nat)) : Bool :=
  Region.noSelect ops && noDefer ops && Nat.beq ord.length ops.size && drawN (sumS ops) ops.size late ord 0
/-- A list of Bools as a number. -/
def Rep (ops : Array Oper) (l : Array Bool) (m : Nat) : Prop := l.size = ops.size ∧ ∀ j, l.getD j false = tb m j
theorem memN_eq (i : Nat) : ∀ l : List Nat, memN i l = l.contains i
  | [] => rfl
  | j :: l => by
    simp only [memN, memN_eq i l, List.contains_cons]
    congr 1
    rw [Bool.eq_iff_iff]; simp only [decide_eq_true_eq, beq_iff_eq, Nat.beq_eq]; exact eq_comm
theorem onlyN_eq {i : Nat} {l : List Nat} (h : onlyN i l = true) : l = [i] := by
  match l with
  | [] => cases h
  | [j] => simp only [onlyN, Nat.beq_eq] at h; rw [h]
  | _ :: _ :: _ => cases h
theorem ready_rep {l : Array Bool} {m : Nat} (h : Rep ops l m) : Region.ready .any ops l = readyN (sumS ops) 0 m := by
  have key : ∀ (s : List Oper) (i : Nat), (∀ k (hk : k < s.length), ops[i + k]? = some s[k]) → (List.range' i s.length).filter (fun j => !l.getD j true && ((ops[j]?).map (·.after.all fun e => !Region.binds .any e || l.getD e.on false)).getD false) = readyN (s.map (opS ops)) i m := by
    intro s
    induction s with
    | nil => intro i _; rfl
    | cons x s ih =>
      intro i hk
      have hx : ops[i]? = some x := hk 0 (by simp)
      have hlt : i < ops.size := (Array.getElem?_eq_some_iff.1 hx).1
      have hih := ih (i + 1) (fun k hk2 => by have := hk (k + 1) (by simpa using hk2); rw [show i + 1 + k = i + (k + 1) by omega]; simpa using this)
      have hT : l.getD i true = tb m i := by
        rw [← h.2 i]
        have : i < l.size := by rw [h.1]; exact hlt
        simp [this]
      have hA : (x.after.all fun e => !Region.binds .any e || l.getD e.on false) = subN (opS ops x).nd m := by
        rw [Bool.eq_iff_iff, sub_iff, Array.all_eq_true_iff_forall_mem]
        unfold opS
        dsimp only
        constructor
        · intro hall j hj
          rw [tb_mask, List.contains_iff_mem] at hj
          obtain ⟨e, he, rfl⟩ := List.mem_map.1 hj
          obtain ⟨he1, he2⟩ := List.mem_filter.1 he
          have := hall e (by simpa using he1)
          rw [he2, h.2] at this
          simpa using this
        · intro hall e he
          rw [h.2]
          cases hb : Region.binds .any e with
          | false => rfl
          | true =>
            have := hall e.on (by rw [tb_mask, List.contains_iff_mem]; exact List.mem_map.2 ⟨e, List.mem_filter.2 ⟨by simpa using he, hb⟩, rfl⟩)
            simpa using this
      rw [List.length_cons, List.range'_succ, List.filter_cons, List.map_cons, readyN, ← hih]
      simp only [hx, hT, Option.map_some, Option.getD_some, hA]
      cases (!tb m i && subN (opS ops x).nd m) <;> rfl
  have := key ops.toList 0 (fun k hk => by rw [Nat.zero_add]; simp at hk ⊢)
  unfold Region.ready sumS
  rw [← this, List.range_eq_range', Array.length_toList]
theorem ready_lt {i m : Nat} (h : memN i (readyN (sumS ops) 0 m) = true) : i < ops.size := by
  have key : ∀ (s : List OpS) (b : Nat), memN i (readyN s b m) = true → i < b + s.length := by
    intro s
    induction s with
    | nil => intro b h; simp [readyN, memN] at h
    | cons x s ih =>
      intro b h
      simp only [readyN] at h
      cases hc : (!tb m b && subN x.nd m) with
      | false => rw [hc] at h; have := ih (b + 1) h; simp only [List.length_cons]; omega
      | true =>
        rw [hc] at h
        simp only [cond_true, memN, Bool.or_eq_true, Nat.beq_eq] at h
        rcases h with h | h
        · simp only [List.length_cons]; omega
        · have := ih (b + 1) h; simp only [List.length_cons]; omega
  have := key _ _ h
  simpa [sumS] using this
theorem rep_set {l : Array Bool} {m i : Nat} (h : Rep ops l m) (hi : i < ops.size) : Rep ops (l.setIfInBounds i true) (orB m i) := by
  refine ⟨by simpa using h.1, fun j => ?_⟩
  rw [tb_orB, ← h.2 j]
  by_cases e : i = j
  · subst e
    have : i < l.size := by rw [h.1]; exact hi
    simp [this]
  · simp [e, Array.getElem?_setIfInBounds_ne e]
theorem apart_rep (x y : Oper) : apartN (opS ops x) (opS ops y) = x.apart ops y := by
  unfold apartN Oper.apart opS
  dsimp only
  congr 1
  · cases x.dst with
    | none => rfl
    | some d => dsimp only; rw [tb_mask]
  · cases y.dst with
    | none => rfl
    | some d => dsimp only; rw [tb_mask]
theorem free_rep {l : Array Bool} {m i : Nat} (h : Rep ops l m) (hf : (match (sumS ops)[i]? with | some x => freeN x i m (sumS ops) 0 | none => false) = true) : Region.free .any ops l i = true := by
  unfold Region.free
  have hsum : (sumS ops)[i]? = (ops[i]?).map (opS ops) := by simp [sumS]
  rw [hsum] at hf
  cases hoi : ops[i]? with
  | none => rw [hoi] at hf; cases hf
  | some oi =>
    rw [hoi] at hf
    dsimp only [Option.map_some] at hf ⊢
    rw [List.all_eq_true]
    intro j hj
    rw [List.mem_range] at hj
    have key : ∀ (s : List Oper) (b : Nat), freeN (opS ops oi) i m (s.map (opS ops)) b = true → ∀ k (hk : k < s.length), (Nat.beq (b + k) i || tb m (b + k) || tb (opS ops s[k]).nd i || apartN (opS ops oi) (opS ops s[k])) = true := by
      intro s
      induction s with
      | nil => intro b _ k hk; simp at hk
      | cons x s ih =>
        intro b hb k hk
        simp only [List.map_cons, freeN] at hb
        rw [Bool.and_eq_true] at hb
        match k with
        | 0 => simpa using hb.1
        | k + 1 =>
          have := ih (b + 1) hb.2 k (by simpa using hk)
          rw [show b + (k + 1) = b + 1 + k by omega]
          simpa using this
    have hk := key ops.toList 0 hf j (by simpa using hj)
    rw [Nat.zero_add] at hk
    have hoj : ops[j]? = some ops[j] := by simp [hj]
    rw [hoj]
    dsimp only
    have hT : l.getD j true = tb m j := by
      rw [← h.2 j]
      have : j < l.size := by rw [h.1]; exact hj
      simp [this]
    rw [hT, ← apart_rep]
    simp only [Bool.or_eq_true, Nat.beq_eq] at hk ⊢
    rcases hk with ((hk | hk) | hk) | hk
    · left; left; simpa using hk
    · left; right; exact hk
    · right; left
      rw [Array.any_eq_true']
      unfold opS at hk
      dsimp only at hk
      rw [tb_mask, List.contains_iff_mem] at hk
      obtain ⟨e, he, hei⟩ := List.mem_map.1 hk
      obtain ⟨he1, he2⟩ := List.mem_filter.1 he
      exact ⟨e, by simpa using he1, by simp [he2, hei]⟩
    · right; right
      simpa using hk
theorem close_rep (i : Nat) : ∀ (k : Nat) {l : Array Bool} {m : Nat}, Rep ops l m → Rep ops (closeB ops i k l) (closeN (sumS ops) i k m)
  | 0, _, _, h => h
  | k + 1, l, m, h => by
    unfold closeB closeN
    refine close_rep i k ?_
    rw [ready_rep h]
    have key : ∀ (xs : List Nat) (l : Array Bool) (m : Nat), (∀ x ∈ xs, x < ops.size) → Rep ops l m → Rep ops (xs.foldl (fun l j => bif Nat.beq j i then l else l.setIfInBounds j true) l) (xs.foldl (fun m j => bif Nat.beq j i then m else orB m j) m) := by
      intro xs
      induction xs with
      | nil => intro l m _ h; exact h
      | cons x xs ih =>
        intro l m hx h
        rw [List.foldl_cons, List.foldl_cons]
        refine ih _ _ (fun y hy => hx y (.tail _ hy)) ?_
        cases Nat.beq x i
        · exact rep_set h (hx x (.head _))
        · exact h
    exact key _ _ _ (fun x hx => ready_lt (by rw [memN_eq, List.contains_iff_mem]; exact hx)) h
theorem draw_rep {late : List Nat} : ∀ (ord : List (Nat × Nat)) {l : Array Bool} {m : Nat}, Rep ops l m → drawN (sumS ops) ops.size late ord m = true → drawB ops late ord l = true
  | [], l, m, h, hd => by
    simp only [drawN] at hd
    simp only [drawB, ready_rep h]
    cases hr : readyN (sumS ops) 0 m with
    | nil => rfl
    | cons _ _ => rw [hr] at hd; cases hd
  | (i, t) :: rest, l, m, h, hd => by
    simp only [drawN, Bool.and_eq_true] at hd
    obtain ⟨h1, h2⟩ := hd
    simp only [drawB, Bool.and_eq_true]
    have hlt : i < ops.size := by
      match t, h1 with
      | 0, h1 => simp only [Bool.and_eq_true] at h1; exact ready_lt h1.1.1
      | 1, h1 => simp only [Bool.and_eq_true] at h1; exact ready_lt h1.1.1.1
      | 2, h1 => simp only [Bool.and_eq_true] at h1; exact ready_lt (m := m) (by rw [onlyN_eq h1.1]; simp [memN])
      | t + 3, h1 => simp only [Bool.and_eq_true] at h1; exact ready_lt (m := m) (by rw [onlyN_eq h1.1]; simp [memN])
    refine ⟨?_, draw_rep rest (rep_set h hlt) h2⟩
    rw [ready_rep h]
    match t, h1 with
    | 0, h1 =>
      simp only [Bool.and_eq_true, memN_eq] at h1 ⊢
      exact ⟨⟨h1.1.1, free_rep h h1.1.2⟩, h1.2⟩
    | 1, h1 =>
      simp only [Bool.and_eq_true, memN_eq] at h1 ⊢
      obtain ⟨⟨⟨a1, a2⟩, a3⟩, ⟨⟨⟨a4, a5⟩, a6⟩, a7⟩⟩ := h1
      have hc := close_rep i ops.size h
      refine ⟨⟨⟨a1, free_rep h a2⟩, a3⟩, ⟨⟨⟨?_, ?_⟩, ?_⟩, ?_⟩⟩
      · rw [ready_rep hc]; exact a4
      · rw [← a5]
        unfold badB
        congr 2
        funext q; exact hc.2 q
      · rw [hc.2]; exact a6
      · rw [List.all_eq_true]
        intro j _
        have := (sub_iff _ _).1 a7 j
        rw [h.2, hc.2]
        cases ht : tb m j with
        | false => rfl
        | true => rw [this ht]; rfl
    | 2, h1 =>
      simp only [Bool.and_eq_true, memN_eq] at h1 ⊢
      exact ⟨by rw [onlyN_eq h1.1]; simp, h1.2⟩
    | t + 3, h1 =>
      simp only [Bool.and_eq_true, memN_eq] at h1 ⊢
      exact ⟨by rw [onlyN_eq h1.1]; simp, h1.2⟩
theorem drawOK_of {late : List Nat} {ord : List (Nat × Nat)} (h : drawOKN ops late ord = true) : drawOK ops late ord = true := by
  unfold drawOKN at h
  unfold drawOK
  simp only [Bool.and_eq_true] at h ⊢
  exact ⟨h.1, draw_rep ord ⟨by simp, fun j => by
    have : tb 0 j = false := by rw [tb_eq]; exact Nat.zero_testBit j
    rw [this]
    by_cases hj : j < ops.size
    · simp [hj]
    · simp [hj]⟩ h.2⟩
end Go.Rt
