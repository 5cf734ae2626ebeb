/- Own texts of this claim, joined. No conditions. -/
import Derived.Test.YtjmfdiaafnnlcaaGreatHTopServeda
import Derived.Test.YtjmfdiaafnnlcaaGreatHTopServedb
import Derived.Test.YtjmfdiaafnnlcaaGreatHTopServedc
import Derived.Test.YtjmfdiaafnnlcaaGreatHTopServedd
set_option linter.unusedVariables false
set_option linter.unusedSimpArgs false
set_option maxRecDepth 20000
namespace Go.Proofs.Hn
open Go.Proofs.Tryz
open Go.Rt Go.Rt.Ha
attribute [local irreducible] WL WC Con Yd At Ats Sl Agree DW
theorem zJx (x0 : Int) (w : World) : (Instr.build 46 [(0, .int .i64 x0)].toArray).run Tryz.prog w = .ok (.agg #[.int .i64 x0, .int .i64 0]) w := by kernel_rfl
theorem zJw (x0 : Int) (x1 : Int) (w : World) : (Instr.build 104 [(0, .int .i64 x0),(1, .int .i64 x1)].toArray).run Tryz.prog w = .ok (.agg #[.int .i64 x0, .int .i64 x1]) w := by kernel_rfl
theorem zJv (x0 : Int) (x1 : Int) (w : World) : (Instr.build 46 [(0, .int .i64 x0),(1, .int .i64 x1)].toArray).run Tryz.prog w = .ok (.agg #[.int .i64 x0, .int .i64 x1]) w := by kernel_rfl
theorem front6 {w0 w : World} {M Y R : List (Nat × Obj)} {a : Nat × Obj} (h : St w0 w (M ++ (Y ++ (a :: R)))) : St w0 w (a :: (M ++ (Y ++ R))) := h.perm ((List.Perm.append_left M (zBc Y [a] R)).trans (zBc M [a] (Y ++ R)))
theorem tot_perm {w0 w : World} {M F : List (Nat × Obj)} {b6 lb bb bn b4 b3 b2 : Nat × Obj} (h : St w0 w (b6 :: (M ++ (lb :: bb :: bn :: b4 :: b3 :: b2 :: F)))) : St w0 w (b4 :: (M ++ (b6 :: lb :: bb :: bn :: b3 :: b2 :: F))) := by
  have h1 : St w0 w (([b6] ++ M) ++ ([lb, bb, bn, b4] ++ (b3 :: b2 :: F))) := by simpa using h
  have h2 := h1.perm (List.Perm.append_left ([b6] ++ M) (show ([lb, bb, bn, b4] ++ (b3 :: b2 :: F)).Perm ([b4] ++ ([lb, bb, bn] ++ (b3 :: b2 :: F))) from zBc [lb, bb, bn] [b4] (b3 :: b2 :: F)))
  have h3 := h2.perm (zBc ([b6] ++ M) [b4] ([lb, bb, bn] ++ (b3 :: b2 :: F)))
  have h4 : St w0 w (b4 :: ([b6] ++ (M ++ (lb :: bb :: bn :: b3 :: b2 :: F)))) := by simpa using h3
  exact h4.perm (List.Perm.cons _ (zBc [b6] M (lb :: bb :: bn :: b3 :: b2 :: F)))
theorem lk_c {w0 w : World} {M L : List (Nat × Obj)} {a : Nat × Obj} {l : Lot} {p : At3} {but lb mm : Nat} (hs : St w0 w (M ++ (a :: L))) (h : LK w0 L l p but lb mm) : LK w0 (a :: L) l p but lb mm := h.cons
theorem iv3 {a b c d e f : Int} (h : a = b) (h2 : c = d) (h3 : e = f) : [Value.int .i64 a, Value.int .i64 c, Value.int .i64 e] = [Value.int .i64 b, Value.int .i64 d, Value.int .i64 f] := by rw [h, h2, h3]
theorem tot_cells {b4 : Nat} {M : List (Nat × Obj)} {x y x' y' : Int} (h2 : x = x') (h3 : y = y') : ((b4, blk 46 [.int .i64 x, .int .i64 y]) :: M : List (Nat × Obj)) = (b4, blk 46 [.int .i64 x', .int .i64 y']) :: M := by subst h2 h3; rfl
theorem two_shl {g : Nat} (h : g ≤ 4) : 2 <<< g < 1000 := by
  match g, h with
  | 0, _ => decide
  | 1, _ => decide
  | 2, _ => decide
  | 3, _ => decide
  | 4, _ => decide
theorem c10 {w0 w : World} {F : List (Nat × Obj)} (l : Lot) (p : At3) (hm : LIn w0 F l p) (g : Int) (hs : St w0 w F) :
  Con Tryz.prog 10 [.agg (l.cells p).toArray, .int .i64 g] w fun v w' => v = .tuple #[.agg #[.int .i64 (totalP l g).1.1, .int .i64 (totalP l g).1.2], .int .i64 (totalP l g).2] ∧ St w0 w' F := by
  refine zFb (n := 81) func10 rfl rfl (zNl rfl) ?_
  have hlg0 := hm.lg
  refine zAe (fun K2 j4 => (zAa (zCa (v := .agg #[.slice _ _ _, .slice _ _ _, .slice _ _ _]) (cs := [_,_,_]) zAc rfl rfl rfl hs (fun b3 w4 j5 => ?_))))
  refine zCa (v := .int _ _) (cs := [_]) zAc rfl rfl rfl j5 (fun b6 w7 j6 => ?_)
  refine zBf (cs := [_,_]) zAc zeroValue46 rfl j6 (fun b9 ku j7 => ?_)
  refine zA5 rfl rfl (zAd (zAb (j4 _ _ (zAe (fun kv gc => (w_drawT (C := fun w => St w0 w _) [11] (.two [(0,1),(1,1),(2,0),(3,1),(4,0)] 5 10 (.two [] 6 10 (.done [(7,0),(8,0),(9,0),(10,2),(11,3),(12,0)]) (.done [(6,2),(7,0),(8,0),(9,0),(11,3),(12,0)])) (.done [(5,2),(6,2),(7,0),(8,0),(9,0),(11,3),(12,0)])) zCb (by kernel_rfl) j7 (fun _ h => h.drew) (fun kw gd => ?_)))))))
  refine dt_two ?_
  refine zBd rfl zAc rfl gd (fun _ hq => (zA4 (vs := [_,_,_]) isAgg26 sizeOf26 hq rfl rfl (zAk (i := 2) (vs := [_,_,_]) rfl rfl))) ?_
  refine zBd rfl zAc rfl gd (fun _ hq => (zAj isAgg3 hq rfl rfl (zAk (i := 1) (vs := [_]) rfl rfl))) ?_
  refine d_w rfl (fun _ => zAf (o := 0) (i := 0) underlying26 rfl sizeOf22 rfl rfl rfl) rfl ?_
  refine zBd rfl zAc rfl gd (fun _ hq => (zAj isAgg22 hq rfl rfl (zAk (i := 2) (vs := [_]) rfl rfl))) ?_
  refine d_w rfl (fun _ => zA8 underlying22 rfl rfl) rfl ?_
  refine d_two rfl rfl ?_ ?_
  ·
   refine zAr zAc call42 rfl rfl rfl rfl (c42 _ _ gd) ?_
   rintro _ kx ⟨bb, bn, rfl, gm⟩
   refine zAd (qn ⟨gm.tail.tail, ?_⟩)
   refine dt_two ?_
   refine d_two rfl rfl ?_ ?_
   ·
    refine zAr zAc call41 rfl rfl rfl rfl (c41 l p hm.cons.cons.cons.cons.cons (.func (.func 74) #[] #[.pointer (some ⟨bb, 0, none⟩), .pointer (some ⟨bn, 0, none⟩)]) (idxE g l.grades.length) (fun X w hs => zDd call74 (c74 g l.grades.length _ _ (by omega) (Ats.app (zAk (i := 0) (vs := [_]) rfl rfl)) (Ats.app (zAk (i := 1) (vs := [_]) rfl rfl)) hs)) gm) ?_
    rintro _ ky (⟨hee, rfl, g6⟩ | ⟨hee, lb, mm, M, rfl, hM, g6⟩)
    ·
     refine zAd (qn ⟨g6.tail.tail, ?_⟩)
     refine zHu ?_
     refine d_w rfl (fun _ => zAi (v := .tuple _) rfl rfl) rfl ?_
     refine d_w rfl (fun _ => zAp (v := .pointer _) rfl rfl rfl) rfl ?_
     refine d_w rfl (fun _ => zAp (v := .int _ _) rfl rfl rfl) rfl ?_
     refine zCq rfl ?_
     refine zBf (cs := [_]) zAc zeroValue92 rfl g6 (fun kz kA gP => ?_)
     refine zAd (qn ⟨gP.tail.tail.tail, ?_⟩)
     refine zDc rfl ?_
     refine zA6 (i := 0) (v := .pointer _) (vs := [_]) zAc sizeOf92 rfl rfl rfl rfl rfl (by simp [Value.oneCell']) gP rfl (zNl rfl) (fun kB gQ => ?_)
     refine zAd (qn ?_)
     refine d_w rfl (fun _ => zCi rfl rfl) rfl ?_
     refine zCf ?_
     refine zAb (gc _ _ (zAe (fun kC kD => (zAe (fun kF j8 => (zAa (zAz rfl rfl (w_p (zB2 rfl rfl rfl rfl) rfl (zAd (zAb (j8 _ _ (zAu rfl rfl (fun gf => ?_) (fun gf => ?_)))))))))))))
     ·
      try simp only [zS] at gf
      refine zAe (fun kG j9 => (zAa (w_p (zA4 (vs := [_,_]) isAgg46 sizeOf46 gQ rfl rfl (zAk (i := 3) (vs := [_,_]) rfl rfl)) rfl (zAz rfl rfl (zA6 (i := 3) (v := .agg #[.int _ _, .int _ _]) (vs := [_,_]) zAc sizeOf46 rfl rfl rfl rfl rfl (by simp [Value.oneCell']) gQ rfl (zNl rfl) (fun kH gR => ?_))))))
      refine zBe rfl rfl (zAd (zAb (j9 _ _ (zAy (zAg (zJa (l := [.cell 4 46, .tmp 5]) (vs := [_,_]) rfl ⟨⟨rfl, _, rfl, zB9 (vs := [_,_]) isAgg46 sizeOf46 gR (zAk (i := 3) (vs := [_,_]) rfl rfl)⟩, ⟨rfl, (rfl : _ = Value.int _ _)⟩, trivial⟩ ?_))))))
      exact ⟨by unfold totalP; rw [if_pos hee]; rfl, gR.tail.tail.tail.tail.tail.tail⟩
     exfalso
     try simp only [zS] at gf
     first | exact hee gf | exact gf hee
    replace g6 := (show St _ _ (M ++ (_ :: _ :: _ :: _ :: _ :: _ :: F)) from g6)
    have hk := zGx g6 hm.cons.cons.cons.cons.cons (zB4 hee).1
    have hew := zB4 hee
    have hbt := hk.bt
    have hlg := hk.ok.lg
    have hlb := hk.ok.lb
    have hlc := hk.ok.lc
    refine zAd (qn ⟨g6.drop.tail.tail.tail, ?_⟩)
    refine zHu ?_
    refine d_w rfl (fun _ => zAi (v := .tuple _) rfl rfl) rfl ?_
    refine d_w rfl (fun _ => zAp (v := .pointer _) rfl rfl rfl) rfl ?_
    refine d_w rfl (fun _ => zAp (v := .int _ _) rfl rfl rfl) rfl ?_
    refine zCq rfl ?_
    refine zBf (cs := [_]) zAc zeroValue92 rfl g6 (fun g9 kI gS => ?_)
    refine zAd (qn ⟨gS.tail.drop.tail.tail.tail, ?_⟩)
    refine zDc rfl ?_
    refine zA6 (i := 0) (v := .pointer _) (vs := [_]) zAc sizeOf92 rfl rfl rfl rfl rfl (by simp [Value.oneCell']) gS rfl (zNl rfl) (fun kJ ja => ?_)
    refine zAd (qn ?_)
    refine d_w rfl (fun _ => zCi rfl rfl) rfl ?_
    refine zCf ?_
    refine zAb (gc _ _ (zAe (fun kK jb => (zAe (fun kL jc => (zAa (zAz rfl rfl (w_p (zB2 rfl rfl rfl rfl) rfl (zAd (zAb (jc _ _ (zBx rfl rfl ?_))))))))))))
    refine zAs (zAb (jb _ _ (zAe (fun kM jd => ?_))))
    have gn := tot_perm (show St _ _ (_ :: (M ++ (_ :: _ :: _ :: _ :: _ :: _ :: F))) from ja)
    have hk := lk_c gn.tail (zGx (zEg gn.tail) hm.cons.cons.cons.cons (zB4 hee).1)
    have hgl := zF3 hew.2.1
    have hx6 : Ats w0 ((g9, blk 92 [.pointer (some ⟨lb, 0, none⟩)]) :: (lb, blk 142 [.slice p.ag l.grades.length p.cg, .slice p.ab l.bunches.length p.cb, .slice p.ac l.counts.length p.cc, .int .i64 ((0 : Nat) : Int), .map (some mm)]) :: (bb, blk 3 [.int .i64 (l.grades.length : Int)]) :: (bn, blk 3 [.int .i64 g]) :: (b6, blk 3 [.int .i64 g]) :: (b3, blk 26 (l.cells p)) :: F) g9 0 [.pointer (some ⟨lb, 0, none⟩)] := zAk (i := 0) rfl rfl
    have hx3 : Ats w0 ((g9, blk 92 [.pointer (some ⟨lb, 0, none⟩)]) :: (lb, blk 142 [.slice p.ag l.grades.length p.cg, .slice p.ab l.bunches.length p.cb, .slice p.ac l.counts.length p.cc, .int .i64 ((0 : Nat) : Int), .map (some mm)]) :: (bb, blk 3 [.int .i64 (l.grades.length : Int)]) :: (bn, blk 3 [.int .i64 g]) :: (b6, blk 3 [.int .i64 g]) :: (b3, blk 26 (l.cells p)) :: F) b6 0 [.int .i64 g] := zAk (i := 4) rfl rfl
    have hx2 : Ats w0 ((g9, blk 92 [.pointer (some ⟨lb, 0, none⟩)]) :: (lb, blk 142 [.slice p.ag l.grades.length p.cg, .slice p.ab l.bunches.length p.cb, .slice p.ac l.counts.length p.cc, .int .i64 ((0 : Nat) : Int), .map (some mm)]) :: (bb, blk 3 [.int .i64 (l.grades.length : Int)]) :: (bn, blk 3 [.int .i64 g]) :: (b6, blk 3 [.int .i64 g]) :: (b3, blk 26 (l.cells p)) :: F) b3 0 (l.cells p) := zAk (i := 5) rfl rfl
    refine zAa (w_p (zBv (ps := [(0, _)]) (pv := [(0, .int _ _)]) rfl rfl (fun w => zJx _ w)) rfl (zA6 (i := 0) (v := .agg #[.int _ _, .int _ _]) (vs := [_,_]) zAc sizeOf46 rfl rfl rfl rfl rfl (by simp [Value.oneCell']) gn rfl (zNl rfl) (fun kN gU => ?_)))
    refine zAd (zAb (jd _ _ (zAe (fun kO je => (zAe (fun kP jf => (zAa (w_p (zAj isAgg92 gU.tail.drop rfl rfl hx6) rfl (zAr zAc call43 rfl rfl rfl rfl (c43 _ gU) ?_)))))))))
    rintro _ kQ ⟨bp, rfl, jg⟩
    refine zAd (zAb (jf _ _ (zAw ?_)))
    refine zHp (_ :: M) (fun i Bx => ∃ M, Bx = (b9, blk 46 [.int .i64 (totalW l g.toNat ((Ha.ways l 0).take i)).1, .int .i64 (totalW l g.toNat ((Ha.ways l 0).take i)).2]) :: M ∧ Memo l mm M) (fun _ _ => False) rfl rfl rfl call75 (zFg l p 0 lb mm hk.cons bp (zAk (i := 0) (vs := [_]) rfl rfl)) jg (zBc [_] (_ :: M) _) ⟨M, rfl, hM⟩ ?_ ?_ ?_
    ·
     intro lp i hi Bx Xr Xr2 kR hJ hs K jh
     obtain ⟨M, rfl, hM⟩ := hJ
     have hi2 : i < (Ha.ways l 0).length := by simpa using hi
     rw [List.getElem_map, List.getElem_map]
     have hpl := zG9 hk.ok (List.mem_map.2 ⟨_, List.getElem_mem hi2, rfl⟩)
     have hat := zHr (Ha.ways l 0)[i]
     have hwi := way_in hk.ok (List.getElem_mem hi2)
     obtain ⟨h, hh⟩ : ∃ h, h = pad6 (Ha.ways l 0)[i] := ⟨_, rfl⟩
     rw [← hh] at hpl hat ⊢
     have hh6 := hpl.1
     replace hs := (show St _ _ (_ :: (M ++ (Xr ++ (_ :: _ :: _ :: _ :: _ :: _ :: _ :: F)))) from hs)
     refine zAa (zBf (cs := iv [0,0,0,0,0,0]) zAc zeroValue101 rfl hs (fun gV kS ji => ?_))
     refine zDf (i := 0) (l := _) zAc sizeOf101 (by first | omega | rfl | (simp only [hh6, zL] <;> omega)) rfl rfl rfl rfl rfl ji rfl (by first | omega | rfl | (simp only [hh6, zL] <;> omega)) (fun kT jj => ?_)
     refine zAd (zAb (jh _ _ (_ :: _ :: M) jj (fun kU gi => ?_)))
     replace gi := (show St _ _ (_ :: _ :: M ++ (Xr2 ++ (_ :: _ :: _ :: _ :: _ :: _ :: _ :: F))) from gi)
     refine zAw ?_
     refine zAe (fun kV jk => (zAa (zA5 rfl rfl (zA5 rfl rfl (zAd (zAb (jk _ _ (zAe (fun kW jl => (zAe (fun kX jm => (zAa (w_p (zAf (o := 1) (i := 1) underlying26 rfl sizeOf23 rfl rfl rfl) rfl ?_)))))))))))))
     refine w_p (zAj isAgg23 gi.tail.tail.drop.drop.tail rfl rfl (show Ats _ _ _ _ [_] from Ats.part hx2 1 1)) rfl (w_p (zA8 underlying23 rfl rfl) rfl (w_p (zAi (v := _) rfl rfl) rfl (zAd (zAb (jm _ _ (zAw ?_))))))
     refine zBs [8,9,10,11,33,34,35,36,37,38,39,40,41,42,43,44,45,46,47,48,49,50,51,52,53,54,55,56,57,58,59,60,61,62,63,64,65,66,67,68,69,70] [8,9,33] (fun k vs w => ∃ (q : Nat) (M : List (Nat × Obj)), vs = [.int .i64 (sumsTo l g.toNat ((Ha.ways l 0)[i]'hi2) q).1, .int .i64 (sumsTo l g.toNat ((Ha.ways l 0)[i]'hi2) q).2, .int .i64 q] ∧ q ≤ l.bunches.length ∧ k = l.bunches.length - q ∧ Memo l mm M ∧ St w0 w ((gV, blk 101 (iv h)) :: (b9, blk 46 [.int .i64 (totalW l g.toNat ((Ha.ways l 0).take i)).1, .int .i64 (totalW l g.toNat ((Ha.ways l 0).take i)).2]) :: (M ++ (Xr2 ++ ((bp, blk 92 [.pointer (some ⟨lb, 0, none⟩)]) :: (g9, blk 92 [.pointer (some ⟨lb, 0, none⟩)]) :: (lb, blk 142 [.slice p.ag l.grades.length p.cg, .slice p.ab l.bunches.length p.cb, .slice p.ac l.counts.length p.cc, .int .i64 ((0 : Nat) : Int), .map (some mm)]) :: (bb, blk 3 [.int .i64 (l.grades.length : Int)]) :: (bn, blk 3 [.int .i64 g]) :: (b6, blk 3 [.int .i64 g]) :: (b3, blk 26 (l.cells p)) :: F))))) (l.bunches.length) ?_ ?_
     ·
      exact ⟨0, M, rfl, by omega, by omega, hM, gi⟩
     intro k vs μ kY hI kZ gq
     obtain ⟨q, M, rfl, hqa, rfl, hM, hs⟩ := hI
     refine zAe (fun m0 jn => (zAa (w_p (zBw rfl rfl rfl rfl) rfl (zAd (zAb (jn _ _ (zAe (fun m1 jo => (zAu rfl rfl (fun gr => ?_) (fun gr => ?_))))))))))
     ·
      try simp only [zS] at gr
      refine zAs (zAb (jo _ _ (zAe (fun m2 gt => (zAw ?_)))))
      refine zAe (fun m3 jp => (zAa (zAz rfl rfl (zBe rfl rfl (zAd (zAb (jp _ _ (zAe (fun m4 jq => ?_)))))))))
      have hq2 : q < l.bunches.length := by omega
      have hgq := zFa hk.ok hq2 (h.getD q 0)
      have hsm := sums_in (l := l) (g := g.toNat) hwi q
      have h2g := two_shl (g := g.toNat) (by omega)
      have hgq2 := hwi q
      rw [← hat q] at hgq2
      refine w_drawC (C := fun w => ∃ M, Memo l mm M ∧ St w0 w ((gV, blk 101 (iv h)) :: (b9, blk 46 [.int .i64 (totalW l g.toNat ((Ha.ways l 0).take i)).1, .int .i64 (totalW l g.toNat ((Ha.ways l 0).take i)).2]) :: (M ++ (Xr2 ++ ((bp, blk 92 [.pointer (some ⟨lb, 0, none⟩)]) :: (g9, blk 92 [.pointer (some ⟨lb, 0, none⟩)]) :: (lb, blk 142 [.slice p.ag l.grades.length p.cg, .slice p.ab l.bunches.length p.cb, .slice p.ac l.counts.length p.cc, .int .i64 ((0 : Nat) : Int), .map (some mm)]) :: (bb, blk 3 [.int .i64 (l.grades.length : Int)]) :: (bn, blk 3 [.int .i64 g]) :: (b6, blk 3 [.int .i64 g]) :: (b3, blk 26 (l.cells p)) :: F))))) [] [(0,1),(1,0),(2,0),(3,0),(4,1),(5,0),(6,2),(7,0)] zCb (by kernel_rfl) ⟨_, hM, hs⟩ (fun _ ⟨M, h1, h2⟩ => ⟨M, h1, h2.drew⟩) (fun m5 ⟨M, hM, gu⟩ => ?_)
      refine zEo rfl zAc rfl ⟨_, hM, gu⟩ (fun _ ⟨M, hM, hq⟩ => (zAj isAgg92 hq.tail.tail.drop.drop.tail rfl rfl hx6)) ?_
      refine d_w rfl (fun _ => zA2 rfl rfl) rfl ?_
      refine d_w rfl (fun _ => zA2 rfl rfl) rfl ?_
      refine d_w rfl (fun _ => zBr underlying101 sizeOf3 rfl rfl rfl rfl (i := q) (by first | rfl | omega) (by omega)) rfl ?_
      refine zEo rfl zAc rfl ⟨_, hM, gu⟩ (fun _ ⟨M, hM, hq⟩ => (zAj isAgg3 hq rfl rfl (zB7 (i := 0) (j := q) rfl (by first | omega | rfl | (simp only [hh6, zL] <;> omega))))) ?_
      refine d_w rfl (fun _ => zBv (ps := [(0, _),(1, _)]) (pv := [(0, .int _ _),(1, .int _ _)]) rfl rfl (fun w => zJw _ _ w)) rfl ?_
      refine zCq rfl ?_
      refine zAr zAc call44 rfl rfl rfl rfl (zHf (X := _ :: _ :: []) (F := Xr2 ++ ((bp, blk 92 [.pointer (some ⟨lb, 0, none⟩)]) :: (g9, blk 92 [.pointer (some ⟨lb, 0, none⟩)]) :: (lb, blk 142 [.slice p.ag l.grades.length p.cg, .slice p.ab l.bunches.length p.cb, .slice p.ac l.counts.length p.cc, .int .i64 ((0 : Nat) : Int), .map (some mm)]) :: (bb, blk 3 [.int .i64 (l.grades.length : Int)]) :: (bn, blk 3 [.int .i64 g]) :: (b6, blk 3 [.int .i64 g]) :: (b3, blk 26 (l.cells p)) :: F)) l p 0 lb mm hk.cons.app q hq2 (h.getD q 0) hM gu) ?_
      rintro _ m6 ⟨rfl, M2, g0, g3⟩
      replace g3 := (show St _ _ (_ :: _ :: M2 ++ (Xr2 ++ (_ :: _ :: _ :: _ :: _ :: _ :: _ :: F))) from g3)
      refine zAd (qn ⟨⟨_, g0, g3⟩, ?_⟩)
      refine d_w rfl (fun _ => zCi rfl rfl) rfl ?_
      refine zCf ?_
      refine zAb (jq _ _ (zAw ?_))
      refine zAe (fun m7 jr => (zAa (zAz rfl rfl (w_p (zAj isAgg3 g3.tail.tail.drop.drop.tail rfl rfl hx3) rfl (w_p (zI1 (x := 2) (y := g.toNat) rfl rfl rfl rfl rfl (by first | rfl | omega) (by first | omega | exact zBo (by omega)) (by first | omega | exact zBo (by omega))) rfl ?_)))))
      refine w_p (zB6 rfl rfl rfl rfl) rfl (w_p (zAo (v := .bool _) rfl rfl) rfl (zAd (zAb (jr _ _ (zAu rfl rfl (fun gv => ?_) (fun gv => ?_))))))
      ·
       try simp only [zS] at gv
       refine zAe (fun m8 js => (zAa (zAz rfl rfl (zAz rfl rfl (w_p (zBr underlying101 sizeOf3 rfl rfl rfl rfl (i := q) (by first | rfl | omega) (by omega)) rfl ?_)))))
       refine w_p (zAj isAgg3 g3 rfl rfl (zB7 (i := 0) (j := q) rfl (by first | omega | rfl | (simp only [hh6, zL] <;> omega)))) rfl ?_
       refine w_p (zBg rfl rfl rfl rfl (by omega) (by omega)) rfl (zBe rfl rfl (zAd (zAb (js _ _ (zAa (zAz rfl rfl (zAz rfl rfl (w_p (zBr underlying101 sizeOf3 rfl rfl rfl rfl (i := q) (by first | rfl | omega) (by omega)) rfl ?_))))))))
       refine w_p (zAj isAgg3 g3 rfl rfl (zB7 (i := 0) (j := q) rfl (by first | omega | rfl | (simp only [hh6, zL] <;> omega)))) rfl ?_
       refine w_p (zBg rfl rfl rfl rfl (by omega) (by omega)) rfl (zBe rfl rfl (zAd (zAl (zAl (zAb (gt _ _ (zAa (w_p (zBg rfl rfl rfl rfl (by omega) (by omega)) rfl ?_))))))))
       refine zAz rfl rfl (zAd (zAb (gq _ _ (nxI (l.bunches.length - (q + 1)) (by omega) ?_))))
       first
         | (have hq := zH9 (l := l) (g := g.toNat) (h := ((Ha.ways l 0)[i]'hi2)) (k := q) (by rw [← hat q]; omega)
            rw [← hat q] at hq
            exact ⟨q + 1, M2, iv3 (by rw [hq]) (by rw [hq]) rfl, by omega, rfl, g0, g3⟩)
         | (have hq := zH8 (l := l) (g := g.toNat) (h := ((Ha.ways l 0)[i]'hi2)) (k := q) (by rw [← hat q]; omega) (by rw [← hat q]; omega)
            rw [← hat q] at hq
            exact ⟨q + 1, M2, iv3 (by rw [hq]) (by rw [hq]) rfl, by omega, rfl, g0, g3⟩)
         | (have hq := zH7 (l := l) (g := g.toNat) (h := ((Ha.ways l 0)[i]'hi2)) (k := q) (by rw [← hat q]; omega) (by rw [← hat q]; omega)
            exact ⟨q + 1, M2, iv3 (by rw [hq]) (by rw [hq]) rfl, by omega, rfl, g0, g3⟩)
      try simp only [zS] at gv
      refine zAe (fun m9 jt => (zAa (zAz rfl rfl (w_p (zAj isAgg3 g3.tail.tail.drop.drop.tail rfl rfl hx3) rfl (w_p (zBg rfl rfl rfl rfl (by omega) (by omega)) rfl (w_p (zJ9 (x := (gradesB l (bunchOf l q) (h.getD q 0))) (y := g.toNat + 1) rfl rfl rfl rfl (by first | rfl | omega) (by first | rfl | omega) (by first | omega | exact zBo (by omega))) rfl ?_))))))
      refine w_p (show Yd _ _ _ _ (.int .i64 ((bit (gradesB l (bunchOf l q) (h.getD q 0)) (g.toNat + 1) : Nat) : Int)) from (zI2 (x := _) (y := 1) rfl rfl rfl rfl rfl rfl (by first | omega | exact zBo (by omega)) (by first | omega | exact zBo (by omega)))) rfl ?_
      refine w_p (zB6 rfl rfl rfl rfl) rfl (w_p (zAo (v := .bool _) rfl rfl) rfl (zAd (zAb (jt _ _ (zAu rfl rfl (fun gw => ?_) (fun gw => ?_))))))
      ·
       try simp only [zS] at gw
       refine zAa (zAz rfl rfl (zAz rfl rfl (w_p (zBr underlying101 sizeOf3 rfl rfl rfl rfl (i := q) (by first | rfl | omega) (by omega)) rfl ?_)))
       refine w_p (zAj isAgg3 g3 rfl rfl (zB7 (i := 0) (j := q) rfl (by first | omega | rfl | (simp only [hh6, zL] <;> omega)))) rfl ?_
       refine w_p (zBg rfl rfl rfl rfl (by omega) (by omega)) rfl (zBe rfl rfl (zAd (zAl (zAl (zAb (gt _ _ (zAa (w_p (zBg rfl rfl rfl rfl (by omega) (by omega)) rfl ?_))))))))
       refine zAz rfl rfl (zAd (zAb (gq _ _ (nxI (l.bunches.length - (q + 1)) (by omega) ?_))))
       first
         | (have hq := zH9 (l := l) (g := g.toNat) (h := ((Ha.ways l 0)[i]'hi2)) (k := q) (by rw [← hat q]; omega)
            rw [← hat q] at hq
            exact ⟨q + 1, M2, iv3 (by rw [hq]) (by rw [hq]) rfl, by omega, rfl, g0, g3⟩)
         | (have hq := zH8 (l := l) (g := g.toNat) (h := ((Ha.ways l 0)[i]'hi2)) (k := q) (by rw [← hat q]; omega) (by rw [← hat q]; omega)
            rw [← hat q] at hq
            exact ⟨q + 1, M2, iv3 (by rw [hq]) (by rw [hq]) rfl, by omega, rfl, g0, g3⟩)
         | (have hq := zH7 (l := l) (g := g.toNat) (h := ((Ha.ways l 0)[i]'hi2)) (k := q) (by rw [← hat q]; omega) (by rw [← hat q]; omega)
            exact ⟨q + 1, M2, iv3 (by rw [hq]) (by rw [hq]) rfl, by omega, rfl, g0, g3⟩)
      try simp only [zS] at gw
      refine zAs (zAl (zAl (zAb (gt _ _ (zAa (w_p (zBg rfl rfl rfl rfl (by omega) (by omega)) rfl (zAz rfl rfl (zAd (zAb (gq _ _ (nxI (l.bunches.length - (q + 1)) (by omega) ?_)))))))))))
      first
        | (have hq := zH9 (l := l) (g := g.toNat) (h := ((Ha.ways l 0)[i]'hi2)) (k := q) (by rw [← hat q]; omega)
           rw [← hat q] at hq
           exact ⟨q + 1, M2, iv3 (by rw [hq]) (by rw [hq]) rfl, by omega, rfl, g0, g3⟩)
        | (have hq := zH8 (l := l) (g := g.toNat) (h := ((Ha.ways l 0)[i]'hi2)) (k := q) (by rw [← hat q]; omega) (by rw [← hat q]; omega)
           rw [← hat q] at hq
           exact ⟨q + 1, M2, iv3 (by rw [hq]) (by rw [hq]) rfl, by omega, rfl, g0, g3⟩)
        | (have hq := zH7 (l := l) (g := g.toNat) (h := ((Ha.ways l 0)[i]'hi2)) (k := q) (by rw [← hat q]; omega) (by rw [← hat q]; omega)
           exact ⟨q + 1, M2, iv3 (by rw [hq]) (by rw [hq]) rfl, by omega, rfl, g0, g3⟩)
     try simp only [zS] at gr
     refine zBl (zAm (zAm (zA0 (zAb (jl _ _ (zAa (w_p (zAf (o := 0) (i := 0) underlying46 rfl sizeOf3 rfl rfl rfl) rfl (w_p (zAj isAgg3 hs rfl rfl (zAk (i := 1) (vs := [_]) rfl rfl)) rfl ?_))))))))
     refine zAz rfl rfl (w_p (y_min2 rfl rfl rfl rfl) rfl (w_p (zAf (o := 1) (i := 1) underlying46 rfl sizeOf3 rfl rfl rfl) rfl (w_p (zAj isAgg3 hs rfl rfl (zAk (i := 1) (vs := [_]) rfl rfl)) rfl (zAz rfl rfl (w_p (y_max2 rfl rfl rfl rfl) rfl ?_)))))
     refine w_p (zBv (ps := [(0, _),(1, _)]) (pv := [(0, .int _ _),(1, .int _ _)]) rfl rfl (fun w => zJv _ _ w)) rfl (zA6 (i := 1) (v := .agg #[.int _ _, .int _ _]) (vs := [_,_]) zAc sizeOf46 rfl rfl rfl rfl rfl (by simp [Value.oneCell']) hs rfl (zNl rfl) (fun ma ju => ?_))
     refine zAd (zAl (zFy (_ :: M) ju.tail ?_))
     have hqn : q = l.bunches.length := by omega
     subst hqn
     exact ⟨M, tot_cells (by rw [zE5 hi2]; rfl) (by rw [zE5 hi2]; rfl), hM⟩
    ·
     intro bd Bx mc hJ hs
     obtain ⟨M, rfl, hM⟩ := hJ
     rw [List.length_map, List.length_map, List.take_length] at hs
     replace hs := (show St _ _ (_ :: _ :: (M ++ (_ :: _ :: _ :: _ :: _ :: _ :: _ :: F))) from hs)
     refine zAl (zAb (je _ _ (zAe (fun md jv => (zAa (w_p (zA4 (vs := [_,_]) isAgg46 sizeOf46 hs rfl rfl (zAk (i := 1) (vs := [_,_]) rfl rfl)) rfl (zA6 (i := 1) (v := .agg #[.int _ _, .int _ _]) (vs := [_,_]) zAc sizeOf46 rfl rfl rfl rfl rfl (by simp [Value.oneCell']) hs rfl (zNl rfl) (fun me jw => ?_))))))))
     refine zA5 rfl rfl (zAd (zAb (jv _ _ (zAy (zHm (i := 0) (l := [.cell 4 46, .tmp 5]) (vs := [_,_]) jw rfl rfl (fun mf gW => ⟨⟨⟨rfl, _, rfl, zB9 (vs := [_,_]) isAgg46 sizeOf46 gW (zAk (i := 1) (vs := [_,_]) rfl rfl)⟩, ⟨rfl, (rfl : _ = Value.int _ _)⟩, trivial⟩, ?_⟩))))))
     exact ⟨by unfold totalP; rw [if_neg (by simp [hee])]; rfl, gW.tail.tail.drop.tail.tail.tail.tail.tail.tail.tail⟩
    intro _ _ _ _ hJ
    exact hJ.elim
   refine zBf (cs := [_]) zAc zeroValue92 rfl gm (fun ga mg gX => ?_)
   refine zAd (qn ⟨gX.tail.tail.tail, ?_⟩)
   refine zHu ?_
   refine zCq rfl ?_
   refine zAr zAc call41 rfl rfl rfl rfl (c41 l p hm.cons.cons.cons.cons.cons.cons (.func (.func 74) #[] #[.pointer (some ⟨bb, 0, none⟩), .pointer (some ⟨bn, 0, none⟩)]) (idxE g l.grades.length) (fun X w hs => zDd call74 (c74 g l.grades.length _ _ (by omega) (Ats.app (zAk (i := 1) (vs := [_]) rfl rfl)) (Ats.app (zAk (i := 2) (vs := [_]) rfl rfl)) hs)) gX) ?_
   rintro _ mh (⟨hee, rfl, g7⟩ | ⟨hee, lb, mm, M, rfl, hM, g7⟩)
   ·
    refine zAd (qn ⟨g7.tail.tail.tail, ?_⟩)
    refine d_w rfl (fun _ => zAi (v := .tuple _) rfl rfl) rfl ?_
    refine d_w rfl (fun _ => zAp (v := .pointer _) rfl rfl rfl) rfl ?_
    refine d_w rfl (fun _ => zAp (v := .int _ _) rfl rfl rfl) rfl ?_
    refine zDc rfl ?_
    refine zA6 (i := 0) (v := .pointer _) (vs := [_]) zAc sizeOf92 rfl rfl rfl rfl rfl (by simp [Value.oneCell']) g7 rfl (zNl rfl) (fun mi gY => ?_)
    refine zAd (qn ?_)
    refine d_w rfl (fun _ => zCi rfl rfl) rfl ?_
    refine zCf ?_
    refine zAb (gc _ _ (zAe (fun mj ml => (zAe (fun mn jx => (zAa (zAz rfl rfl (w_p (zB2 rfl rfl rfl rfl) rfl (zAd (zAb (jx _ _ (zAu rfl rfl (fun gg => ?_) (fun gg => ?_)))))))))))))
    ·
     try simp only [zS] at gg
     refine zAe (fun mo jy => (zAa (w_p (zA4 (vs := [_,_]) isAgg46 sizeOf46 gY rfl rfl (zAk (i := 3) (vs := [_,_]) rfl rfl)) rfl (zAz rfl rfl (zA6 (i := 3) (v := .agg #[.int _ _, .int _ _]) (vs := [_,_]) zAc sizeOf46 rfl rfl rfl rfl rfl (by simp [Value.oneCell']) gY rfl (zNl rfl) (fun mp gZ => ?_))))))
     refine zBe rfl rfl (zAd (zAb (jy _ _ (zAy (zAg (zJa (l := [.cell 4 46, .tmp 5]) (vs := [_,_]) rfl ⟨⟨rfl, _, rfl, zB9 (vs := [_,_]) isAgg46 sizeOf46 gZ (zAk (i := 3) (vs := [_,_]) rfl rfl)⟩, ⟨rfl, (rfl : _ = Value.int _ _)⟩, trivial⟩ ?_))))))
     exact ⟨by unfold totalP; rw [if_pos hee]; rfl, gZ.tail.tail.tail.tail.tail.tail⟩
    exfalso
    try simp only [zS] at gg
    first | exact hee gg | exact gg hee
   replace g7 := (show St _ _ (M ++ (_ :: _ :: _ :: _ :: _ :: _ :: _ :: F)) from g7)
   have hk := zGx g7 hm.cons.cons.cons.cons.cons.cons (zB4 hee).1
   have hew := zB4 hee
   have hbt := hk.bt
   have hlg := hk.ok.lg
   have hlb := hk.ok.lb
   have hlc := hk.ok.lc
   refine zAd (qn ⟨g7.drop.tail.tail.tail.tail, ?_⟩)
   refine d_w rfl (fun _ => zAi (v := .tuple _) rfl rfl) rfl ?_
   refine d_w rfl (fun _ => zAp (v := .pointer _) rfl rfl rfl) rfl ?_
   refine d_w rfl (fun _ => zAp (v := .int _ _) rfl rfl rfl) rfl ?_
   have gx := front6 (M := M) (Y := [_]) (show St _ _ (M ++ ([_] ++ (_ :: _ :: _ :: _ :: _ :: _ :: F))) from g7)
   replace gx := (show St _ _ (_ :: (M ++ (_ :: _ :: _ :: _ :: _ :: _ :: F))) from gx)
   refine zDc rfl ?_
   refine zA6 (i := 0) (v := .pointer _) (vs := [_]) zAc sizeOf92 rfl rfl rfl rfl rfl (by simp [Value.oneCell']) gx rfl (zNl rfl) (fun mq jz => ?_)
   refine zAd (qn ?_)
   refine d_w rfl (fun _ => zCi rfl rfl) rfl ?_
   refine zCf ?_
   refine zAb (gc _ _ (zAe (fun mr jA => (zAe (fun ms jB => (zAa (zAz rfl rfl (w_p (zB2 rfl rfl rfl rfl) rfl (zAd (zAb (jB _ _ (zBx rfl rfl ?_))))))))))))
   refine zAs (zAb (jA _ _ (zAe (fun mu jC => ?_))))
   have gy := tot_perm (show St _ _ (_ :: (M ++ (_ :: _ :: _ :: _ :: _ :: _ :: F))) from jz)
   have hk := lk_c gy.tail (zGx (zEg gy.tail) hm.cons.cons.cons.cons (zB4 hee).1)
   have hgl := zF3 hew.2.1
   have hx6 : Ats w0 ((ga, blk 92 [.pointer (some ⟨lb, 0, none⟩)]) :: (lb, blk 142 [.slice p.ag l.grades.length p.cg, .slice p.ab l.bunches.length p.cb, .slice p.ac l.counts.length p.cc, .int .i64 ((0 : Nat) : Int), .map (some mm)]) :: (bb, blk 3 [.int .i64 (l.grades.length : Int)]) :: (bn, blk 3 [.int .i64 g]) :: (b6, blk 3 [.int .i64 g]) :: (b3, blk 26 (l.cells p)) :: F) ga 0 [.pointer (some ⟨lb, 0, none⟩)] := zAk (i := 0) rfl rfl
   have hx3 : Ats w0 ((ga, blk 92 [.pointer (some ⟨lb, 0, none⟩)]) :: (lb, blk 142 [.slice p.ag l.grades.length p.cg, .slice p.ab l.bunches.length p.cb, .slice p.ac l.counts.length p.cc, .int .i64 ((0 : Nat) : Int), .map (some mm)]) :: (bb, blk 3 [.int .i64 (l.grades.length : Int)]) :: (bn, blk 3 [.int .i64 g]) :: (b6, blk 3 [.int .i64 g]) :: (b3, blk 26 (l.cells p)) :: F) b6 0 [.int .i64 g] := zAk (i := 4) rfl rfl
   have hx2 : Ats w0 ((ga, blk 92 [.pointer (some ⟨lb, 0, none⟩)]) :: (lb, blk 142 [.slice p.ag l.grades.length p.cg, .slice p.ab l.bunches.length p.cb, .slice p.ac l.counts.length p.cc, .int .i64 ((0 : Nat) : Int), .map (some mm)]) :: (bb, blk 3 [.int .i64 (l.grades.length : Int)]) :: (bn, blk 3 [.int .i64 g]) :: (b6, blk 3 [.int .i64 g]) :: (b3, blk 26 (l.cells p)) :: F) b3 0 (l.cells p) := zAk (i := 5) rfl rfl
   refine zAa (w_p (zBv (ps := [(0, _)]) (pv := [(0, .int _ _)]) rfl rfl (fun w => zJx _ w)) rfl (zA6 (i := 0) (v := .agg #[.int _ _, .int _ _]) (vs := [_,_]) zAc sizeOf46 rfl rfl rfl rfl rfl (by simp [Value.oneCell']) gy rfl (zNl rfl) (fun mv hD => ?_)))
   refine zAd (zAb (jC _ _ (zAe (fun mw jD => (zAe (fun mx jE => (zAa (w_p (zAj isAgg92 hD.tail.drop rfl rfl hx6) rfl (zAr zAc call43 rfl rfl rfl rfl (c43 _ hD) ?_)))))))))
   rintro _ my ⟨bp, rfl, jF⟩
   refine zAd (zAb (jE _ _ (zAw ?_)))
   refine zHp (_ :: M) (fun i Bx => ∃ M, Bx = (b9, blk 46 [.int .i64 (totalW l g.toNat ((Ha.ways l 0).take i)).1, .int .i64 (totalW l g.toNat ((Ha.ways l 0).take i)).2]) :: M ∧ Memo l mm M) (fun _ _ => False) rfl rfl rfl call75 (zFg l p 0 lb mm hk.cons bp (zAk (i := 0) (vs := [_]) rfl rfl)) jF (zBc [_] (_ :: M) _) ⟨M, rfl, hM⟩ ?_ ?_ ?_
   ·
    intro lp i hi Bx Xr Xr2 mz hJ hs K jG
    obtain ⟨M, rfl, hM⟩ := hJ
    have hi2 : i < (Ha.ways l 0).length := by simpa using hi
    rw [List.getElem_map, List.getElem_map]
    have hpl := zG9 hk.ok (List.mem_map.2 ⟨_, List.getElem_mem hi2, rfl⟩)
    have hat := zHr (Ha.ways l 0)[i]
    have hwi := way_in hk.ok (List.getElem_mem hi2)
    obtain ⟨h, hh⟩ : ∃ h, h = pad6 (Ha.ways l 0)[i] := ⟨_, rfl⟩
    rw [← hh] at hpl hat ⊢
    have hh6 := hpl.1
    replace hs := (show St _ _ (_ :: (M ++ (Xr ++ (_ :: _ :: _ :: _ :: _ :: _ :: _ :: F)))) from hs)
    refine zAa (zBf (cs := iv [0,0,0,0,0,0]) zAc zeroValue101 rfl hs (fun hG mA jH => ?_))
    refine zDf (i := 0) (l := _) zAc sizeOf101 (by first | omega | rfl | (simp only [hh6, zL] <;> omega)) rfl rfl rfl rfl rfl jH rfl (by first | omega | rfl | (simp only [hh6, zL] <;> omega)) (fun mB jI => ?_)
    refine zAd (zAb (jG _ _ (_ :: _ :: M) jI (fun mC gj => ?_)))
    replace gj := (show St _ _ (_ :: _ :: M ++ (Xr2 ++ (_ :: _ :: _ :: _ :: _ :: _ :: _ :: F))) from gj)
    refine zAw ?_
    refine zAe (fun mD jJ => (zAa (zA5 rfl rfl (zA5 rfl rfl (zAd (zAb (jJ _ _ (zAe (fun mE jK => (zAe (fun mF jL => (zAa (w_p (zAf (o := 1) (i := 1) underlying26 rfl sizeOf23 rfl rfl rfl) rfl ?_)))))))))))))
    refine w_p (zAj isAgg23 gj.tail.tail.drop.drop.tail rfl rfl (show Ats _ _ _ _ [_] from Ats.part hx2 1 1)) rfl (w_p (zA8 underlying23 rfl rfl) rfl (w_p (zAi (v := _) rfl rfl) rfl (zAd (zAb (jL _ _ (zAw ?_))))))
    refine zBs [8,9,10,11,33,34,35,36,37,38,39,40,41,42,43,44,45,46,47,48,49,50,51,52,53,54,55,56,57,58,59,60,61,62,63,64,65,66,67,68,69,70] [8,9,33] (fun k vs w => ∃ (q : Nat) (M : List (Nat × Obj)), vs = [.int .i64 (sumsTo l g.toNat ((Ha.ways l 0)[i]'hi2) q).1, .int .i64 (sumsTo l g.toNat ((Ha.ways l 0)[i]'hi2) q).2, .int .i64 q] ∧ q ≤ l.bunches.length ∧ k = l.bunches.length - q ∧ Memo l mm M ∧ St w0 w ((hG, blk 101 (iv h)) :: (b9, blk 46 [.int .i64 (totalW l g.toNat ((Ha.ways l 0).take i)).1, .int .i64 (totalW l g.toNat ((Ha.ways l 0).take i)).2]) :: (M ++ (Xr2 ++ ((bp, blk 92 [.pointer (some ⟨lb, 0, none⟩)]) :: (ga, blk 92 [.pointer (some ⟨lb, 0, none⟩)]) :: (lb, blk 142 [.slice p.ag l.grades.length p.cg, .slice p.ab l.bunches.length p.cb, .slice p.ac l.counts.length p.cc, .int .i64 ((0 : Nat) : Int), .map (some mm)]) :: (bb, blk 3 [.int .i64 (l.grades.length : Int)]) :: (bn, blk 3 [.int .i64 g]) :: (b6, blk 3 [.int .i64 g]) :: (b3, blk 26 (l.cells p)) :: F))))) (l.bunches.length) ?_ ?_
    ·
     exact ⟨0, M, rfl, by omega, by omega, hM, gj⟩
    intro k vs μ mG hI mH gz
    obtain ⟨q, M, rfl, hqa, rfl, hM, hs⟩ := hI
    refine zAe (fun mI jM => (zAa (w_p (zBw rfl rfl rfl rfl) rfl (zAd (zAb (jM _ _ (zAe (fun mJ jN => (zAu rfl rfl (fun gA => ?_) (fun gA => ?_))))))))))
    ·
     try simp only [zS] at gA
     refine zAs (zAb (jN _ _ (zAe (fun mK gB => (zAw ?_)))))
     refine zAe (fun mL jO => (zAa (zAz rfl rfl (zBe rfl rfl (zAd (zAb (jO _ _ (zAe (fun mM jP => ?_)))))))))
     have hq2 : q < l.bunches.length := by omega
     have hgq := zFa hk.ok hq2 (h.getD q 0)
     have hsm := sums_in (l := l) (g := g.toNat) hwi q
     have h2g := two_shl (g := g.toNat) (by omega)
     have hgq2 := hwi q
     rw [← hat q] at hgq2
     refine w_drawC (C := fun w => ∃ M, Memo l mm M ∧ St w0 w ((hG, blk 101 (iv h)) :: (b9, blk 46 [.int .i64 (totalW l g.toNat ((Ha.ways l 0).take i)).1, .int .i64 (totalW l g.toNat ((Ha.ways l 0).take i)).2]) :: (M ++ (Xr2 ++ ((bp, blk 92 [.pointer (some ⟨lb, 0, none⟩)]) :: (ga, blk 92 [.pointer (some ⟨lb, 0, none⟩)]) :: (lb, blk 142 [.slice p.ag l.grades.length p.cg, .slice p.ab l.bunches.length p.cb, .slice p.ac l.counts.length p.cc, .int .i64 ((0 : Nat) : Int), .map (some mm)]) :: (bb, blk 3 [.int .i64 (l.grades.length : Int)]) :: (bn, blk 3 [.int .i64 g]) :: (b6, blk 3 [.int .i64 g]) :: (b3, blk 26 (l.cells p)) :: F))))) [] [(0,1),(1,0),(2,0),(3,0),(4,1),(5,0),(6,2),(7,0)] zCb (by kernel_rfl) ⟨_, hM, hs⟩ (fun _ ⟨M, h1, h2⟩ => ⟨M, h1, h2.drew⟩) (fun mN ⟨M, hM, gC⟩ => ?_)
     refine zEo rfl zAc rfl ⟨_, hM, gC⟩ (fun _ ⟨M, hM, hq⟩ => (zAj isAgg92 hq.tail.tail.drop.drop.tail rfl rfl hx6)) ?_
     refine d_w rfl (fun _ => zA2 rfl rfl) rfl ?_
     refine d_w rfl (fun _ => zA2 rfl rfl) rfl ?_
     refine d_w rfl (fun _ => zBr underlying101 sizeOf3 rfl rfl rfl rfl (i := q) (by first | rfl | omega) (by omega)) rfl ?_
     refine zEo rfl zAc rfl ⟨_, hM, gC⟩ (fun _ ⟨M, hM, hq⟩ => (zAj isAgg3 hq rfl rfl (zB7 (i := 0) (j := q) rfl (by first | omega | rfl | (simp only [hh6, zL] <;> omega))))) ?_
     refine d_w rfl (fun _ => zBv (ps := [(0, _),(1, _)]) (pv := [(0, .int _ _),(1, .int _ _)]) rfl rfl (fun w => zJw _ _ w)) rfl ?_
     refine zCq rfl ?_
     refine zAr zAc call44 rfl rfl rfl rfl (zHf (X := _ :: _ :: []) (F := Xr2 ++ ((bp, blk 92 [.pointer (some ⟨lb, 0, none⟩)]) :: (ga, blk 92 [.pointer (some ⟨lb, 0, none⟩)]) :: (lb, blk 142 [.slice p.ag l.grades.length p.cg, .slice p.ab l.bunches.length p.cb, .slice p.ac l.counts.length p.cc, .int .i64 ((0 : Nat) : Int), .map (some mm)]) :: (bb, blk 3 [.int .i64 (l.grades.length : Int)]) :: (bn, blk 3 [.int .i64 g]) :: (b6, blk 3 [.int .i64 g]) :: (b3, blk 26 (l.cells p)) :: F)) l p 0 lb mm hk.cons.app q hq2 (h.getD q 0) hM gC) ?_
     rintro _ mO ⟨rfl, M2, g0, g4⟩
     replace g4 := (show St _ _ (_ :: _ :: M2 ++ (Xr2 ++ (_ :: _ :: _ :: _ :: _ :: _ :: _ :: F))) from g4)
     refine zAd (qn ⟨⟨_, g0, g4⟩, ?_⟩)
     refine d_w rfl (fun _ => zCi rfl rfl) rfl ?_
     refine zCf ?_
     refine zAb (jP _ _ (zAw ?_))
     refine zAe (fun mP jQ => (zAa (zAz rfl rfl (w_p (zAj isAgg3 g4.tail.tail.drop.drop.tail rfl rfl hx3) rfl (w_p (zI1 (x := 2) (y := g.toNat) rfl rfl rfl rfl rfl (by first | rfl | omega) (by first | omega | exact zBo (by omega)) (by first | omega | exact zBo (by omega))) rfl ?_)))))
     refine w_p (zB6 rfl rfl rfl rfl) rfl (w_p (zAo (v := .bool _) rfl rfl) rfl (zAd (zAb (jQ _ _ (zAu rfl rfl (fun gE => ?_) (fun gE => ?_))))))
     ·
      try simp only [zS] at gE
      refine zAe (fun mQ jR => (zAa (zAz rfl rfl (zAz rfl rfl (w_p (zBr underlying101 sizeOf3 rfl rfl rfl rfl (i := q) (by first | rfl | omega) (by omega)) rfl ?_)))))
      refine w_p (zAj isAgg3 g4 rfl rfl (zB7 (i := 0) (j := q) rfl (by first | omega | rfl | (simp only [hh6, zL] <;> omega)))) rfl ?_
      refine w_p (zBg rfl rfl rfl rfl (by omega) (by omega)) rfl (zBe rfl rfl (zAd (zAb (jR _ _ (zAa (zAz rfl rfl (zAz rfl rfl (w_p (zBr underlying101 sizeOf3 rfl rfl rfl rfl (i := q) (by first | rfl | omega) (by omega)) rfl ?_))))))))
      refine w_p (zAj isAgg3 g4 rfl rfl (zB7 (i := 0) (j := q) rfl (by first | omega | rfl | (simp only [hh6, zL] <;> omega)))) rfl ?_
      refine w_p (zBg rfl rfl rfl rfl (by omega) (by omega)) rfl (zBe rfl rfl (zAd (zAl (zAl (zAb (gB _ _ (zAa (w_p (zBg rfl rfl rfl rfl (by omega) (by omega)) rfl ?_))))))))
      refine zAz rfl rfl (zAd (zAb (gz _ _ (nxI (l.bunches.length - (q + 1)) (by omega) ?_))))
      first
        | (have hq := zH9 (l := l) (g := g.toNat) (h := ((Ha.ways l 0)[i]'hi2)) (k := q) (by rw [← hat q]; omega)
           rw [← hat q] at hq
           exact ⟨q + 1, M2, iv3 (by rw [hq]) (by rw [hq]) rfl, by omega, rfl, g0, g4⟩)
        | (have hq := zH8 (l := l) (g := g.toNat) (h := ((Ha.ways l 0)[i]'hi2)) (k := q) (by rw [← hat q]; omega) (by rw [← hat q]; omega)
           rw [← hat q] at hq
           exact ⟨q + 1, M2, iv3 (by rw [hq]) (by rw [hq]) rfl, by omega, rfl, g0, g4⟩)
        | (have hq := zH7 (l := l) (g := g.toNat) (h := ((Ha.ways l 0)[i]'hi2)) (k := q) (by rw [← hat q]; omega) (by rw [← hat q]; omega)
           exact ⟨q + 1, M2, iv3 (by rw [hq]) (by rw [hq]) rfl, by omega, rfl, g0, g4⟩)
     try simp only [zS] at gE
     refine zAe (fun mR jS => (zAa (zAz rfl rfl (w_p (zAj isAgg3 g4.tail.tail.drop.drop.tail rfl rfl hx3) rfl (w_p (zBg rfl rfl rfl rfl (by omega) (by omega)) rfl (w_p (zJ9 (x := (gradesB l (bunchOf l q) (h.getD q 0))) (y := g.toNat + 1) rfl rfl rfl rfl (by first | rfl | omega) (by first | rfl | omega) (by first | omega | exact zBo (by omega))) rfl ?_))))))
     refine w_p (show Yd _ _ _ _ (.int .i64 ((bit (gradesB l (bunchOf l q) (h.getD q 0)) (g.toNat + 1) : Nat) : Int)) from (zI2 (x := _) (y := 1) rfl rfl rfl rfl rfl rfl (by first | omega | exact zBo (by omega)) (by first | omega | exact zBo (by omega)))) rfl ?_
     refine w_p (zB6 rfl rfl rfl rfl) rfl (w_p (zAo (v := .bool _) rfl rfl) rfl (zAd (zAb (jS _ _ (zAu rfl rfl (fun gF => ?_) (fun gF => ?_))))))
     ·
      try simp only [zS] at gF
      refine zAa (zAz rfl rfl (zAz rfl rfl (w_p (zBr underlying101 sizeOf3 rfl rfl rfl rfl (i := q) (by first | rfl | omega) (by omega)) rfl ?_)))
      refine w_p (zAj isAgg3 g4 rfl rfl (zB7 (i := 0) (j := q) rfl (by first | omega | rfl | (simp only [hh6, zL] <;> omega)))) rfl ?_
      refine w_p (zBg rfl rfl rfl rfl (by omega) (by omega)) rfl (zBe rfl rfl (zAd (zAl (zAl (zAb (gB _ _ (zAa (w_p (zBg rfl rfl rfl rfl (by omega) (by omega)) rfl ?_))))))))
      refine zAz rfl rfl (zAd (zAb (gz _ _ (nxI (l.bunches.length - (q + 1)) (by omega) ?_))))
      first
        | (have hq := zH9 (l := l) (g := g.toNat) (h := ((Ha.ways l 0)[i]'hi2)) (k := q) (by rw [← hat q]; omega)
           rw [← hat q] at hq
           exact ⟨q + 1, M2, iv3 (by rw [hq]) (by rw [hq]) rfl, by omega, rfl, g0, g4⟩)
        | (have hq := zH8 (l := l) (g := g.toNat) (h := ((Ha.ways l 0)[i]'hi2)) (k := q) (by rw [← hat q]; omega) (by rw [← hat q]; omega)
           rw [← hat q] at hq
           exact ⟨q + 1, M2, iv3 (by rw [hq]) (by rw [hq]) rfl, by omega, rfl, g0, g4⟩)
        | (have hq := zH7 (l := l) (g := g.toNat) (h := ((Ha.ways l 0)[i]'hi2)) (k := q) (by rw [← hat q]; omega) (by rw [← hat q]; omega)
           exact ⟨q + 1, M2, iv3 (by rw [hq]) (by rw [hq]) rfl, by omega, rfl, g0, g4⟩)
     try simp only [zS] at gF
     refine zAs (zAl (zAl (zAb (gB _ _ (zAa (w_p (zBg rfl rfl rfl rfl (by omega) (by omega)) rfl (zAz rfl rfl (zAd (zAb (gz _ _ (nxI (l.bunches.length - (q + 1)) (by omega) ?_)))))))))))
     first
       | (have hq := zH9 (l := l) (g := g.toNat) (h := ((Ha.ways l 0)[i]'hi2)) (k := q) (by rw [← hat q]; omega)
          rw [← hat q] at hq
          exact ⟨q + 1, M2, iv3 (by rw [hq]) (by rw [hq]) rfl, by omega, rfl, g0, g4⟩)
       | (have hq := zH8 (l := l) (g := g.toNat) (h := ((Ha.ways l 0)[i]'hi2)) (k := q) (by rw [← hat q]; omega) (by rw [← hat q]; omega)
          rw [← hat q] at hq
          exact ⟨q + 1, M2, iv3 (by rw [hq]) (by rw [hq]) rfl, by omega, rfl, g0, g4⟩)
       | (have hq := zH7 (l := l) (g := g.toNat) (h := ((Ha.ways l 0)[i]'hi2)) (k := q) (by rw [← hat q]; omega) (by rw [← hat q]; omega)
          exact ⟨q + 1, M2, iv3 (by rw [hq]) (by rw [hq]) rfl, by omega, rfl, g0, g4⟩)
    try simp only [zS] at gA
    refine zBl (zAm (zAm (zA0 (zAb (jK _ _ (zAa (w_p (zAf (o := 0) (i := 0) underlying46 rfl sizeOf3 rfl rfl rfl) rfl (w_p (zAj isAgg3 hs rfl rfl (zAk (i := 1) (vs := [_]) rfl rfl)) rfl ?_))))))))
    refine zAz rfl rfl (w_p (y_min2 rfl rfl rfl rfl) rfl (w_p (zAf (o := 1) (i := 1) underlying46 rfl sizeOf3 rfl rfl rfl) rfl (w_p (zAj isAgg3 hs rfl rfl (zAk (i := 1) (vs := [_]) rfl rfl)) rfl (zAz rfl rfl (w_p (y_max2 rfl rfl rfl rfl) rfl ?_)))))
    refine w_p (zBv (ps := [(0, _),(1, _)]) (pv := [(0, .int _ _),(1, .int _ _)]) rfl rfl (fun w => zJv _ _ w)) rfl (zA6 (i := 1) (v := .agg #[.int _ _, .int _ _]) (vs := [_,_]) zAc sizeOf46 rfl rfl rfl rfl rfl (by simp [Value.oneCell']) hs rfl (zNl rfl) (fun mS jT => ?_))
    refine zAd (zAl (zFy (_ :: M) jT.tail ?_))
    have hqn : q = l.bunches.length := by omega
    subst hqn
    exact ⟨M, tot_cells (by rw [zE5 hi2]; rfl) (by rw [zE5 hi2]; rfl), hM⟩
   ·
    intro bd Bx mT hJ hs
    obtain ⟨M, rfl, hM⟩ := hJ
    rw [List.length_map, List.length_map, List.take_length] at hs
    replace hs := (show St _ _ (_ :: _ :: (M ++ (_ :: _ :: _ :: _ :: _ :: _ :: _ :: F))) from hs)
    refine zAl (zAb (jD _ _ (zAe (fun mU jU => (zAa (w_p (zA4 (vs := [_,_]) isAgg46 sizeOf46 hs rfl rfl (zAk (i := 1) (vs := [_,_]) rfl rfl)) rfl (zA6 (i := 1) (v := .agg #[.int _ _, .int _ _]) (vs := [_,_]) zAc sizeOf46 rfl rfl rfl rfl rfl (by simp [Value.oneCell']) hs rfl (zNl rfl) (fun mV jV => ?_))))))))
    refine zA5 rfl rfl (zAd (zAb (jU _ _ (zAy (zHm (i := 0) (l := [.cell 4 46, .tmp 5]) (vs := [_,_]) jV rfl rfl (fun mW hH => ⟨⟨⟨rfl, _, rfl, zB9 (vs := [_,_]) isAgg46 sizeOf46 hH (zAk (i := 1) (vs := [_,_]) rfl rfl)⟩, ⟨rfl, (rfl : _ = Value.int _ _)⟩, trivial⟩, ?_⟩))))))
    exact ⟨by unfold totalP; rw [if_neg (by simp [hee])]; rfl, hH.tail.tail.drop.tail.tail.tail.tail.tail.tail.tail⟩
   intro _ _ _ _ hJ
   exact hJ.elim
  refine zBf (cs := [_]) zAc zeroValue92 rfl gd (fun gb mX hO => ?_)
  refine zAd (qn ⟨hO.tail, ?_⟩)
  refine zHu ?_
  refine zCq rfl ?_
  refine zAr zAc call42 rfl rfl rfl rfl (c42 _ _ hO) ?_
  rintro _ mY ⟨bb, bn, rfl, hX⟩
  refine zAd (qn ⟨hX.tail.tail.tail, ?_⟩)
  refine zCq rfl ?_
  refine zAr zAc call41 rfl rfl rfl rfl (c41 l p hm.cons.cons.cons.cons.cons.cons (.func (.func 74) #[] #[.pointer (some ⟨bb, 0, none⟩), .pointer (some ⟨bn, 0, none⟩)]) (idxE g l.grades.length) (fun X w hs => zDd call74 (c74 g l.grades.length _ _ (by omega) (Ats.app (zAk (i := 0) (vs := [_]) rfl rfl)) (Ats.app (zAk (i := 1) (vs := [_]) rfl rfl)) hs)) hX) ?_
  rintro _ mZ (⟨hee, rfl, g8⟩ | ⟨hee, lb, mm, M, rfl, hM, g8⟩)
  ·
   refine zAd (qn ⟨g8.tail.tail.tail, ?_⟩)
   refine d_w rfl (fun _ => zAi (v := .tuple _) rfl rfl) rfl ?_
   refine d_w rfl (fun _ => zAp (v := .pointer _) rfl rfl rfl) rfl ?_
   refine d_w rfl (fun _ => zAp (v := .int _ _) rfl rfl rfl) rfl ?_
   refine zDc rfl ?_
   refine zA6 (i := 2) (v := .pointer _) (vs := [_]) zAc sizeOf92 rfl rfl rfl rfl rfl (by simp [Value.oneCell']) g8 rfl (zNl rfl) (fun q0 hY => ?_)
   refine zAd (qn ?_)
   refine d_w rfl (fun _ => zCi rfl rfl) rfl ?_
   refine zCf ?_
   refine zAb (gc _ _ (zAe (fun q1 q3 => (zAe (fun q4 jW => (zAa (zAz rfl rfl (w_p (zB2 rfl rfl rfl rfl) rfl (zAd (zAb (jW _ _ (zAu rfl rfl (fun gh => ?_) (fun gh => ?_)))))))))))))
   ·
    try simp only [zS] at gh
    refine zAe (fun q5 jX => (zAa (w_p (zA4 (vs := [_,_]) isAgg46 sizeOf46 hY rfl rfl (zAk (i := 3) (vs := [_,_]) rfl rfl)) rfl (zAz rfl rfl (zA6 (i := 3) (v := .agg #[.int _ _, .int _ _]) (vs := [_,_]) zAc sizeOf46 rfl rfl rfl rfl rfl (by simp [Value.oneCell']) hY rfl (zNl rfl) (fun q6 j0 => ?_))))))
    refine zBe rfl rfl (zAd (zAb (jX _ _ (zAy (zAg (zJa (l := [.cell 4 46, .tmp 5]) (vs := [_,_]) rfl ⟨⟨rfl, _, rfl, zB9 (vs := [_,_]) isAgg46 sizeOf46 j0 (zAk (i := 3) (vs := [_,_]) rfl rfl)⟩, ⟨rfl, (rfl : _ = Value.int _ _)⟩, trivial⟩ ?_))))))
    exact ⟨by unfold totalP; rw [if_pos hee]; rfl, j0.tail.tail.tail.tail.tail.tail⟩
   exfalso
   try simp only [zS] at gh
   first | exact hee gh | exact gh hee
  replace g8 := (show St _ _ (M ++ (_ :: _ :: _ :: _ :: _ :: _ :: _ :: F)) from g8)
  have hk := zGx g8 hm.cons.cons.cons.cons.cons.cons (zB4 hee).1
  have hew := zB4 hee
  have hbt := hk.bt
  have hlg := hk.ok.lg
  have hlb := hk.ok.lb
  have hlc := hk.ok.lc
  refine zAd (qn ⟨g8.drop.tail.tail.tail.tail, ?_⟩)
  refine d_w rfl (fun _ => zAi (v := .tuple _) rfl rfl) rfl ?_
  refine d_w rfl (fun _ => zAp (v := .pointer _) rfl rfl rfl) rfl ?_
  refine d_w rfl (fun _ => zAp (v := .int _ _) rfl rfl rfl) rfl ?_
  have gG := front6 (M := M) (Y := [_,_,_]) (show St _ _ (M ++ ([_,_,_] ++ (_ :: _ :: _ :: _ :: F))) from g8)
  replace gG := (show St _ _ (_ :: (M ++ (_ :: _ :: _ :: _ :: _ :: _ :: F))) from gG)
  refine zDc rfl ?_
  refine zA6 (i := 0) (v := .pointer _) (vs := [_]) zAc sizeOf92 rfl rfl rfl rfl rfl (by simp [Value.oneCell']) gG rfl (zNl rfl) (fun q7 jY => ?_)
  refine zAd (qn ?_)
  refine d_w rfl (fun _ => zCi rfl rfl) rfl ?_
  refine zCf ?_
  refine zAb (gc _ _ (zAe (fun q8 jZ => (zAe (fun q9 k4 => (zAa (zAz rfl rfl (w_p (zB2 rfl rfl rfl rfl) rfl (zAd (zAb (k4 _ _ (zBx rfl rfl ?_))))))))))))
  refine zAs (zAb (jZ _ _ (zAe (fun qa k5 => ?_))))
  have gH := tot_perm (show St _ _ (_ :: (M ++ (_ :: _ :: _ :: _ :: _ :: _ :: F))) from jY)
  have hk := lk_c gH.tail (zGx (zEg gH.tail) hm.cons.cons.cons.cons (zB4 hee).1)
  have hgl := zF3 hew.2.1
  have hx6 : Ats w0 ((gb, blk 92 [.pointer (some ⟨lb, 0, none⟩)]) :: (lb, blk 142 [.slice p.ag l.grades.length p.cg, .slice p.ab l.bunches.length p.cb, .slice p.ac l.counts.length p.cc, .int .i64 ((0 : Nat) : Int), .map (some mm)]) :: (bb, blk 3 [.int .i64 (l.grades.length : Int)]) :: (bn, blk 3 [.int .i64 g]) :: (b6, blk 3 [.int .i64 g]) :: (b3, blk 26 (l.cells p)) :: F) gb 0 [.pointer (some ⟨lb, 0, none⟩)] := zAk (i := 0) rfl rfl
  have hx3 : Ats w0 ((gb, blk 92 [.pointer (some ⟨lb, 0, none⟩)]) :: (lb, blk 142 [.slice p.ag l.grades.length p.cg, .slice p.ab l.bunches.length p.cb, .slice p.ac l.counts.length p.cc, .int .i64 ((0 : Nat) : Int), .map (some mm)]) :: (bb, blk 3 [.int .i64 (l.grades.length : Int)]) :: (bn, blk 3 [.int .i64 g]) :: (b6, blk 3 [.int .i64 g]) :: (b3, blk 26 (l.cells p)) :: F) b6 0 [.int .i64 g] := zAk (i := 4) rfl rfl
  have hx2 : Ats w0 ((gb, blk 92 [.pointer (some ⟨lb, 0, none⟩)]) :: (lb, blk 142 [.slice p.ag l.grades.length p.cg, .slice p.ab l.bunches.length p.cb, .slice p.ac l.counts.length p.cc, .int .i64 ((0 : Nat) : Int), .map (some mm)]) :: (bb, blk 3 [.int .i64 (l.grades.length : Int)]) :: (bn, blk 3 [.int .i64 g]) :: (b6, blk 3 [.int .i64 g]) :: (b3, blk 26 (l.cells p)) :: F) b3 0 (l.cells p) := zAk (i := 5) rfl rfl
  refine zAa (w_p (zBv (ps := [(0, _)]) (pv := [(0, .int _ _)]) rfl rfl (fun w => zJx _ w)) rfl (zA6 (i := 0) (v := .agg #[.int _ _, .int _ _]) (vs := [_,_]) zAc sizeOf46 rfl rfl rfl rfl rfl (by simp [Value.oneCell']) gH rfl (zNl rfl) (fun qb j1 => ?_)))
  refine zAd (zAb (k5 _ _ (zAe (fun qc k6 => (zAe (fun qd k7 => (zAa (w_p (zAj isAgg92 j1.tail.drop rfl rfl hx6) rfl (zAr zAc call43 rfl rfl rfl rfl (c43 _ j1) ?_)))))))))
  rintro _ qe ⟨bp, rfl, k8⟩
  refine zAd (zAb (k7 _ _ (zAw ?_)))
  refine zHp (_ :: M) (fun i Bx => ∃ M, Bx = (b9, blk 46 [.int .i64 (totalW l g.toNat ((Ha.ways l 0).take i)).1, .int .i64 (totalW l g.toNat ((Ha.ways l 0).take i)).2]) :: M ∧ Memo l mm M) (fun _ _ => False) rfl rfl rfl call75 (zFg l p 0 lb mm hk.cons bp (zAk (i := 0) (vs := [_]) rfl rfl)) k8 (zBc [_] (_ :: M) _) ⟨M, rfl, hM⟩ ?_ ?_ ?_
  ·
   intro lp i hi Bx Xr Xr2 qf hJ hs K k9
   obtain ⟨M, rfl, hM⟩ := hJ
   have hi2 : i < (Ha.ways l 0).length := by simpa using hi
   rw [List.getElem_map, List.getElem_map]
   have hpl := zG9 hk.ok (List.mem_map.2 ⟨_, List.getElem_mem hi2, rfl⟩)
   have hat := zHr (Ha.ways l 0)[i]
   have hwi := way_in hk.ok (List.getElem_mem hi2)
   obtain ⟨h, hh⟩ : ∃ h, h = pad6 (Ha.ways l 0)[i] := ⟨_, rfl⟩
   rw [← hh] at hpl hat ⊢
   have hh6 := hpl.1
   replace hs := (show St _ _ (_ :: (M ++ (Xr ++ (_ :: _ :: _ :: _ :: _ :: _ :: _ :: F)))) from hs)
   refine zAa (zBf (cs := iv [0,0,0,0,0,0]) zAc zeroValue101 rfl hs (fun j2 qg ka => ?_))
   refine zDf (i := 0) (l := _) zAc sizeOf101 (by first | omega | rfl | (simp only [hh6, zL] <;> omega)) rfl rfl rfl rfl rfl ka rfl (by first | omega | rfl | (simp only [hh6, zL] <;> omega)) (fun qh kb => ?_)
   refine zAd (zAb (k9 _ _ (_ :: _ :: M) kb (fun qi gk => ?_)))
   replace gk := (show St _ _ (_ :: _ :: M ++ (Xr2 ++ (_ :: _ :: _ :: _ :: _ :: _ :: _ :: F))) from gk)
   refine zAw ?_
   refine zAe (fun qj kc => (zAa (zA5 rfl rfl (zA5 rfl rfl (zAd (zAb (kc _ _ (zAe (fun qk kd => (zAe (fun ql kf => (zAa (w_p (zAf (o := 1) (i := 1) underlying26 rfl sizeOf23 rfl rfl rfl) rfl ?_)))))))))))))
   refine w_p (zAj isAgg23 gk.tail.tail.drop.drop.tail rfl rfl (show Ats _ _ _ _ [_] from Ats.part hx2 1 1)) rfl (w_p (zA8 underlying23 rfl rfl) rfl (w_p (zAi (v := _) rfl rfl) rfl (zAd (zAb (kf _ _ (zAw ?_))))))
   refine zBs [8,9,10,11,33,34,35,36,37,38,39,40,41,42,43,44,45,46,47,48,49,50,51,52,53,54,55,56,57,58,59,60,61,62,63,64,65,66,67,68,69,70] [8,9,33] (fun k vs w => ∃ (q : Nat) (M : List (Nat × Obj)), vs = [.int .i64 (sumsTo l g.toNat ((Ha.ways l 0)[i]'hi2) q).1, .int .i64 (sumsTo l g.toNat ((Ha.ways l 0)[i]'hi2) q).2, .int .i64 q] ∧ q ≤ l.bunches.length ∧ k = l.bunches.length - q ∧ Memo l mm M ∧ St w0 w ((j2, blk 101 (iv h)) :: (b9, blk 46 [.int .i64 (totalW l g.toNat ((Ha.ways l 0).take i)).1, .int .i64 (totalW l g.toNat ((Ha.ways l 0).take i)).2]) :: (M ++ (Xr2 ++ ((bp, blk 92 [.pointer (some ⟨lb, 0, none⟩)]) :: (gb, blk 92 [.pointer (some ⟨lb, 0, none⟩)]) :: (lb, blk 142 [.slice p.ag l.grades.length p.cg, .slice p.ab l.bunches.length p.cb, .slice p.ac l.counts.length p.cc, .int .i64 ((0 : Nat) : Int), .map (some mm)]) :: (bb, blk 3 [.int .i64 (l.grades.length : Int)]) :: (bn, blk 3 [.int .i64 g]) :: (b6, blk 3 [.int .i64 g]) :: (b3, blk 26 (l.cells p)) :: F))))) (l.bunches.length) ?_ ?_
   ·
    exact ⟨0, M, rfl, by omega, by omega, hM, gk⟩
   intro k vs μ qm hI qo gI
   obtain ⟨q, M, rfl, hqa, rfl, hM, hs⟩ := hI
   refine zAe (fun qp kg => (zAa (w_p (zBw rfl rfl rfl rfl) rfl (zAd (zAb (kg _ _ (zAe (fun qq kh => (zAu rfl rfl (fun gJ => ?_) (fun gJ => ?_))))))))))
   ·
    try simp only [zS] at gJ
    refine zAs (zAb (kh _ _ (zAe (fun qr gK => (zAw ?_)))))
    refine zAe (fun qs ki => (zAa (zAz rfl rfl (zBe rfl rfl (zAd (zAb (ki _ _ (zAe (fun qt kj => ?_)))))))))
    have hq2 : q < l.bunches.length := by omega
    have hgq := zFa hk.ok hq2 (h.getD q 0)
    have hsm := sums_in (l := l) (g := g.toNat) hwi q
    have h2g := two_shl (g := g.toNat) (by omega)
    have hgq2 := hwi q
    rw [← hat q] at hgq2
    refine w_drawC (C := fun w => ∃ M, Memo l mm M ∧ St w0 w ((j2, blk 101 (iv h)) :: (b9, blk 46 [.int .i64 (totalW l g.toNat ((Ha.ways l 0).take i)).1, .int .i64 (totalW l g.toNat ((Ha.ways l 0).take i)).2]) :: (M ++ (Xr2 ++ ((bp, blk 92 [.pointer (some ⟨lb, 0, none⟩)]) :: (gb, blk 92 [.pointer (some ⟨lb, 0, none⟩)]) :: (lb, blk 142 [.slice p.ag l.grades.length p.cg, .slice p.ab l.bunches.length p.cb, .slice p.ac l.counts.length p.cc, .int .i64 ((0 : Nat) : Int), .map (some mm)]) :: (bb, blk 3 [.int .i64 (l.grades.length : Int)]) :: (bn, blk 3 [.int .i64 g]) :: (b6, blk 3 [.int .i64 g]) :: (b3, blk 26 (l.cells p)) :: F))))) [] [(0,1),(1,0),(2,0),(3,0),(4,1),(5,0),(6,2),(7,0)] zCb (by kernel_rfl) ⟨_, hM, hs⟩ (fun _ ⟨M, h1, h2⟩ => ⟨M, h1, h2.drew⟩) (fun qu ⟨M, hM, gL⟩ => ?_)
    refine zEo rfl zAc rfl ⟨_, hM, gL⟩ (fun _ ⟨M, hM, hq⟩ => (zAj isAgg92 hq.tail.tail.drop.drop.tail rfl rfl hx6)) ?_
    refine d_w rfl (fun _ => zA2 rfl rfl) rfl ?_
    refine d_w rfl (fun _ => zA2 rfl rfl) rfl ?_
    refine d_w rfl (fun _ => zBr underlying101 sizeOf3 rfl rfl rfl rfl (i := q) (by first | rfl | omega) (by omega)) rfl ?_
    refine zEo rfl zAc rfl ⟨_, hM, gL⟩ (fun _ ⟨M, hM, hq⟩ => (zAj isAgg3 hq rfl rfl (zB7 (i := 0) (j := q) rfl (by first | omega | rfl | (simp only [hh6, zL] <;> omega))))) ?_
    refine d_w rfl (fun _ => zBv (ps := [(0, _),(1, _)]) (pv := [(0, .int _ _),(1, .int _ _)]) rfl rfl (fun w => zJw _ _ w)) rfl ?_
    refine zCq rfl ?_
    refine zAr zAc call44 rfl rfl rfl rfl (zHf (X := _ :: _ :: []) (F := Xr2 ++ ((bp, blk 92 [.pointer (some ⟨lb, 0, none⟩)]) :: (gb, blk 92 [.pointer (some ⟨lb, 0, none⟩)]) :: (lb, blk 142 [.slice p.ag l.grades.length p.cg, .slice p.ab l.bunches.length p.cb, .slice p.ac l.counts.length p.cc, .int .i64 ((0 : Nat) : Int), .map (some mm)]) :: (bb, blk 3 [.int .i64 (l.grades.length : Int)]) :: (bn, blk 3 [.int .i64 g]) :: (b6, blk 3 [.int .i64 g]) :: (b3, blk 26 (l.cells p)) :: F)) l p 0 lb mm hk.cons.app q hq2 (h.getD q 0) hM gL) ?_
    rintro _ qv ⟨rfl, M2, g0, g5⟩
    replace g5 := (show St _ _ (_ :: _ :: M2 ++ (Xr2 ++ (_ :: _ :: _ :: _ :: _ :: _ :: _ :: F))) from g5)
    refine zAd (qn ⟨⟨_, g0, g5⟩, ?_⟩)
    refine d_w rfl (fun _ => zCi rfl rfl) rfl ?_
    refine zCf ?_
    refine zAb (kj _ _ (zAw ?_))
    refine zAe (fun qw km => (zAa (zAz rfl rfl (w_p (zAj isAgg3 g5.tail.tail.drop.drop.tail rfl rfl hx3) rfl (w_p (zI1 (x := 2) (y := g.toNat) rfl rfl rfl rfl rfl (by first | rfl | omega) (by first | omega | exact zBo (by omega)) (by first | omega | exact zBo (by omega))) rfl ?_)))))
    refine w_p (zB6 rfl rfl rfl rfl) rfl (w_p (zAo (v := .bool _) rfl rfl) rfl (zAd (zAb (km _ _ (zAu rfl rfl (fun gM => ?_) (fun gM => ?_))))))
    ·
     try simp only [zS] at gM
     refine zAe (fun qx kn => (zAa (zAz rfl rfl (zAz rfl rfl (w_p (zBr underlying101 sizeOf3 rfl rfl rfl rfl (i := q) (by first | rfl | omega) (by omega)) rfl ?_)))))
     refine w_p (zAj isAgg3 g5 rfl rfl (zB7 (i := 0) (j := q) rfl (by first | omega | rfl | (simp only [hh6, zL] <;> omega)))) rfl ?_
     refine w_p (zBg rfl rfl rfl rfl (by omega) (by omega)) rfl (zBe rfl rfl (zAd (zAb (kn _ _ (zAa (zAz rfl rfl (zAz rfl rfl (w_p (zBr underlying101 sizeOf3 rfl rfl rfl rfl (i := q) (by first | rfl | omega) (by omega)) rfl ?_))))))))
     refine w_p (zAj isAgg3 g5 rfl rfl (zB7 (i := 0) (j := q) rfl (by first | omega | rfl | (simp only [hh6, zL] <;> omega)))) rfl ?_
     refine w_p (zBg rfl rfl rfl rfl (by omega) (by omega)) rfl (zBe rfl rfl (zAd (zAl (zAl (zAb (gK _ _ (zAa (w_p (zBg rfl rfl rfl rfl (by omega) (by omega)) rfl ?_))))))))
     refine zAz rfl rfl (zAd (zAb (gI _ _ (nxI (l.bunches.length - (q + 1)) (by omega) ?_))))
     first
       | (have hq := zH9 (l := l) (g := g.toNat) (h := ((Ha.ways l 0)[i]'hi2)) (k := q) (by rw [← hat q]; omega)
          rw [← hat q] at hq
          exact ⟨q + 1, M2, iv3 (by rw [hq]) (by rw [hq]) rfl, by omega, rfl, g0, g5⟩)
       | (have hq := zH8 (l := l) (g := g.toNat) (h := ((Ha.ways l 0)[i]'hi2)) (k := q) (by rw [← hat q]; omega) (by rw [← hat q]; omega)
          rw [← hat q] at hq
          exact ⟨q + 1, M2, iv3 (by rw [hq]) (by rw [hq]) rfl, by omega, rfl, g0, g5⟩)
       | (have hq := zH7 (l := l) (g := g.toNat) (h := ((Ha.ways l 0)[i]'hi2)) (k := q) (by rw [← hat q]; omega) (by rw [← hat q]; omega)
          exact ⟨q + 1, M2, iv3 (by rw [hq]) (by rw [hq]) rfl, by omega, rfl, g0, g5⟩)
    try simp only [zS] at gM
    refine zAe (fun qy ko => (zAa (zAz rfl rfl (w_p (zAj isAgg3 g5.tail.tail.drop.drop.tail rfl rfl hx3) rfl (w_p (zBg rfl rfl rfl rfl (by omega) (by omega)) rfl (w_p (zJ9 (x := (gradesB l (bunchOf l q) (h.getD q 0))) (y := g.toNat + 1) rfl rfl rfl rfl (by first | rfl | omega) (by first | rfl | omega) (by first | omega | exact zBo (by omega))) rfl ?_))))))
    refine w_p (show Yd _ _ _ _ (.int .i64 ((bit (gradesB l (bunchOf l q) (h.getD q 0)) (g.toNat + 1) : Nat) : Int)) from (zI2 (x := _) (y := 1) rfl rfl rfl rfl rfl rfl (by first | omega | exact zBo (by omega)) (by first | omega | exact zBo (by omega)))) rfl ?_
    refine w_p (zB6 rfl rfl rfl rfl) rfl (w_p (zAo (v := .bool _) rfl rfl) rfl (zAd (zAb (ko _ _ (zAu rfl rfl (fun gN => ?_) (fun gN => ?_))))))
    ·
     try simp only [zS] at gN
     refine zAa (zAz rfl rfl (zAz rfl rfl (w_p (zBr underlying101 sizeOf3 rfl rfl rfl rfl (i := q) (by first | rfl | omega) (by omega)) rfl ?_)))
     refine w_p (zAj isAgg3 g5 rfl rfl (zB7 (i := 0) (j := q) rfl (by first | omega | rfl | (simp only [hh6, zL] <;> omega)))) rfl ?_
     refine w_p (zBg rfl rfl rfl rfl (by omega) (by omega)) rfl (zBe rfl rfl (zAd (zAl (zAl (zAb (gK _ _ (zAa (w_p (zBg rfl rfl rfl rfl (by omega) (by omega)) rfl ?_))))))))
     refine zAz rfl rfl (zAd (zAb (gI _ _ (nxI (l.bunches.length - (q + 1)) (by omega) ?_))))
     first
       | (have hq := zH9 (l := l) (g := g.toNat) (h := ((Ha.ways l 0)[i]'hi2)) (k := q) (by rw [← hat q]; omega)
          rw [← hat q] at hq
          exact ⟨q + 1, M2, iv3 (by rw [hq]) (by rw [hq]) rfl, by omega, rfl, g0, g5⟩)
       | (have hq := zH8 (l := l) (g := g.toNat) (h := ((Ha.ways l 0)[i]'hi2)) (k := q) (by rw [← hat q]; omega) (by rw [← hat q]; omega)
          rw [← hat q] at hq
          exact ⟨q + 1, M2, iv3 (by rw [hq]) (by rw [hq]) rfl, by omega, rfl, g0, g5⟩)
       | (have hq := zH7 (l := l) (g := g.toNat) (h := ((Ha.ways l 0)[i]'hi2)) (k := q) (by rw [← hat q]; omega) (by rw [← hat q]; omega)
          exact ⟨q + 1, M2, iv3 (by rw [hq]) (by rw [hq]) rfl, by omega, rfl, g0, g5⟩)
    try simp only [zS] at gN
    refine zAs (zAl (zAl (zAb (gK _ _ (zAa (w_p (zBg rfl rfl rfl rfl (by omega) (by omega)) rfl (zAz rfl rfl (zAd (zAb (gI _ _ (nxI (l.bunches.length - (q + 1)) (by omega) ?_)))))))))))
    first
      | (have hq := zH9 (l := l) (g := g.toNat) (h := ((Ha.ways l 0)[i]'hi2)) (k := q) (by rw [← hat q]; omega)
         rw [← hat q] at hq
         exact ⟨q + 1, M2, iv3 (by rw [hq]) (by rw [hq]) rfl, by omega, rfl, g0, g5⟩)
      | (have hq := zH8 (l := l) (g := g.toNat) (h := ((Ha.ways l 0)[i]'hi2)) (k := q) (by rw [← hat q]; omega) (by rw [← hat q]; omega)
         rw [← hat q] at hq
         exact ⟨q + 1, M2, iv3 (by rw [hq]) (by rw [hq]) rfl, by omega, rfl, g0, g5⟩)
      | (have hq := zH7 (l := l) (g := g.toNat) (h := ((Ha.ways l 0)[i]'hi2)) (k := q) (by rw [← hat q]; omega) (by rw [← hat q]; omega)
         exact ⟨q + 1, M2, iv3 (by rw [hq]) (by rw [hq]) rfl, by omega, rfl, g0, g5⟩)
   try simp only [zS] at gJ
   refine zBl (zAm (zAm (zA0 (zAb (kd _ _ (zAa (w_p (zAf (o := 0) (i := 0) underlying46 rfl sizeOf3 rfl rfl rfl) rfl (w_p (zAj isAgg3 hs rfl rfl (zAk (i := 1) (vs := [_]) rfl rfl)) rfl ?_))))))))
   refine zAz rfl rfl (w_p (y_min2 rfl rfl rfl rfl) rfl (w_p (zAf (o := 1) (i := 1) underlying46 rfl sizeOf3 rfl rfl rfl) rfl (w_p (zAj isAgg3 hs rfl rfl (zAk (i := 1) (vs := [_]) rfl rfl)) rfl (zAz rfl rfl (w_p (y_max2 rfl rfl rfl rfl) rfl ?_)))))
   refine w_p (zBv (ps := [(0, _),(1, _)]) (pv := [(0, .int _ _),(1, .int _ _)]) rfl rfl (fun w => zJv _ _ w)) rfl (zA6 (i := 1) (v := .agg #[.int _ _, .int _ _]) (vs := [_,_]) zAc sizeOf46 rfl rfl rfl rfl rfl (by simp [Value.oneCell']) hs rfl (zNl rfl) (fun qz kp => ?_))
   refine zAd (zAl (zFy (_ :: M) kp.tail ?_))
   have hqn : q = l.bunches.length := by omega
   subst hqn
   exact ⟨M, tot_cells (by rw [zE5 hi2]; rfl) (by rw [zE5 hi2]; rfl), hM⟩
  ·
   intro bd Bx qA hJ hs
   obtain ⟨M, rfl, hM⟩ := hJ
   rw [List.length_map, List.length_map, List.take_length] at hs
   replace hs := (show St _ _ (_ :: _ :: (M ++ (_ :: _ :: _ :: _ :: _ :: _ :: _ :: F))) from hs)
   refine zAl (zAb (k6 _ _ (zAe (fun qB kq => (zAa (w_p (zA4 (vs := [_,_]) isAgg46 sizeOf46 hs rfl rfl (zAk (i := 1) (vs := [_,_]) rfl rfl)) rfl (zA6 (i := 1) (v := .agg #[.int _ _, .int _ _]) (vs := [_,_]) zAc sizeOf46 rfl rfl rfl rfl rfl (by simp [Value.oneCell']) hs rfl (zNl rfl) (fun qC kr => ?_))))))))
   refine zA5 rfl rfl (zAd (zAb (kq _ _ (zAy (zHm (i := 0) (l := [.cell 4 46, .tmp 5]) (vs := [_,_]) kr rfl rfl (fun qD j3 => ⟨⟨⟨rfl, _, rfl, zB9 (vs := [_,_]) isAgg46 sizeOf46 j3 (zAk (i := 1) (vs := [_,_]) rfl rfl)⟩, ⟨rfl, (rfl : _ = Value.int _ _)⟩, trivial⟩, ?_⟩))))))
   exact ⟨by unfold totalP; rw [if_neg (by simp [hee])]; rfl, j3.tail.tail.drop.tail.tail.tail.tail.tail.tail.tail⟩
  intro _ _ _ _ hJ
  exact hJ.elim

end Go.Proofs.Hn
set_option maxRecDepth 20000
namespace Go.Proofs.Hn
open Go.Proofs.Tryz
open Go.Rt Go.Rt.Ha
attribute [local irreducible] WL WC Con Yd At Ats Sl Agree DW
theorem Try_HO_fb2 (x0 : Int) (w : World) : (Instr.buildSlice 43 1 [(0, .int .i64 x0)].toArray).run Tryz.prog w = .ok (.slice (some ⟨w.heap.size, 0, none⟩) 1 1) (w.alloc (Go.Rt.blk 3 [.int .i64 x0])) := by kernel_rfl
theorem pickE_1 {l : Lot} {g m : Int} (h : idxE g l.grades.length ≠ 0) : idxE g l.grades.length = pickE l g m := by unfold pickE; rw [if_pos h]
theorem pickE_2 {l : Lot} {g m : Int} (h : idxE g l.grades.length = 0) (h2 : out 0 72 m = true) : 7 = pickE l g m := by unfold pickE; rw [if_neg (by simp [h]), if_pos h2]
theorem pickE_3 {l : Lot} {g m : Int} (h : idxE g l.grades.length = 0) (h2 : out 0 72 m = false) : idxE g l.grades.length = pickE l g m := by unfold pickE; rw [if_neg (by simp [h]), if_neg (by simp [h2]), h]
theorem any1 {p : Int → Bool} {x : Int} {b : Bool} (h : [x].any p = b) : p x = b := by simpa using h
theorem c56 {w0 w : World} {F : List (Nat × Obj)} (l : Lot) (p : At3) (g m : Int) (hlg : l.grades.length ≤ 9223372036854775807) (bg bl bm : Nat) (h0 : Ats w0 F bg 0 [.int .i64 g]) (h1 : Ats w0 F bl 0 (l.cells p)) (h2 : Ats w0 F bm 0 [.int .i64 m]) (hs : St w0 w F) :
  Con Tryz.prog 56 [.pointer (some ⟨bg, 0, none⟩), .pointer (some ⟨bl, 0, none⟩), .pointer (some ⟨bm, 0, none⟩)] w fun v w' => v = .int .i64 (pickE l g m) ∧ St w0 w' F := by
  refine zAt (n := 19) func56 rfl rfl (zNl rfl) ?_
  refine zAe (fun K2 g8 => (zAa (zA5 rfl rfl (zAd (zAb (g8 _ _ (zAe (fun K4 g9 => (zAa (w_p (zAj isAgg3 hs rfl rfl h0) rfl (w_p (zAf (o := 0) (i := 0) underlying26 rfl sizeOf22 rfl rfl rfl) rfl ?_)))))))))))
  refine w_p (zAj isAgg22 hs rfl rfl (show Ats _ _ _ _ [_] from Ats.part h1 0 1)) rfl (w_p (zA8 underlying22 rfl rfl) rfl (zAr zAc call42 rfl rfl rfl rfl (c42 _ _ hs) ?_))
  rintro _ w6 ⟨bb, bn, rfl, ga⟩
  refine zAr zAc call74 rfl rfl rfl rfl (c74 g l.grades.length _ _ (by omega) (zAk (i := 0) (vs := [_]) rfl rfl) (zAk (i := 1) (vs := [_]) rfl rfl) ga) ?_
  rintro _ w9 ⟨rfl, g3⟩
  refine zBe rfl rfl (zAd (zAb (g9 _ _ (zAe (fun gg g4 => (zAe (fun gh g7 => (zAa (zAz rfl rfl (w_p (zB6 rfl rfl rfl rfl) rfl (w_p (zAi (v := .bool _) rfl rfl) rfl ?_)))))))))))
  refine zBi (fun g5 => ?_) (fun g5 => ?_)
  ·
   try simp only [zS] at g5
   refine w_y rfl rfl rfl (zAj isAgg3 g3.tail.tail rfl rfl h2) rfl ?_
   refine zBb (ps := [(0, _)]) (pv := [(0, .int _ _)]) (cs := [_]) (zAq rfl rfl rfl) rfl rfl (fun w => Try_HO_fb2 _ w) g3 (fun gi gj gb => ?_)
   refine zAr (zAq rfl rfl rfl) call57 rfl rfl rfl rfl (c57 _ _ _ [_] _ (by simp) (zBt (i := 0) (rows := [[_]]) rfl (by simp) rfl) gb) ?_
   rintro _ gk ⟨rfl, g0⟩
   refine w_p (zAx (v := .bool _) rfl rfl rfl rfl) rfl (zAd (zAb (g7 _ _ (zAu rfl rfl (fun g6 => ?_) (fun g6 => ?_)))))
   ·
    try simp only [zS] at g6
    refine zAa (zA5 rfl rfl (zAd (zAb (g4 _ _ (zAe (fun gm gc => (zAa (zAz rfl rfl (zBe rfl rfl (zAd (zAb (gc _ _ (zAy (zA1 (l := [.tmp 3]) (vs := [_]) rfl ⟨⟨rfl, (rfl : _ = Value.int _ _)⟩, trivial⟩ ?_))))))))))))))
    first
      | exact ⟨congrArg (Value.int .i64) (pickE_1 (by assumption)), g0.tail.tail.tail⟩
      | exact ⟨congrArg (Value.int .i64) (pickE_2 (by assumption) (any1 (by assumption))), g0.tail.tail.tail⟩
      | exact ⟨congrArg (Value.int .i64) (pickE_3 (by assumption) (any1 (by assumption))), g0.tail.tail.tail⟩
   try simp only [zS] at g6
   refine zAs (zAb (g4 _ _ (zAe (fun gn gd => (zAa (zAz rfl rfl (zBe rfl rfl (zAd (zAb (gd _ _ (zAy (zA1 (l := [.tmp 3]) (vs := [_]) rfl ⟨⟨rfl, (rfl : _ = Value.int _ _)⟩, trivial⟩ ?_))))))))))))
   first
     | exact ⟨congrArg (Value.int .i64) (pickE_1 (by assumption)), g0.tail.tail.tail⟩
     | exact ⟨congrArg (Value.int .i64) (pickE_2 (by assumption) (any1 (by assumption))), g0.tail.tail.tail⟩
     | exact ⟨congrArg (Value.int .i64) (pickE_3 (by assumption) (any1 (by assumption))), g0.tail.tail.tail⟩
  try simp only [zS] at g5
  refine zAh rfl rfl rfl ?_
  refine zAh rfl rfl rfl ?_
  refine zAh rfl rfl rfl ?_
  refine w_p (zA9 (v := _) rfl rfl rfl rfl) rfl (zAd (zAb (g7 _ _ (zBx rfl rfl ?_))))
  refine zAs (zAb (g4 _ _ (zAe (fun gq gf => (zAa (zAz rfl rfl (zBe rfl rfl (zAd (zAb (gf _ _ (zAy (zA1 (l := [.tmp 3]) (vs := [_]) rfl ⟨⟨rfl, (rfl : _ = Value.int _ _)⟩, trivial⟩ ?_))))))))))))
  first
    | exact ⟨congrArg (Value.int .i64) (pickE_1 (by assumption)), g3.tail.tail⟩
    | exact ⟨congrArg (Value.int .i64) (pickE_2 (by assumption) (any1 (by assumption))), g3.tail.tail⟩
    | exact ⟨congrArg (Value.int .i64) (pickE_3 (by assumption) (any1 (by assumption))), g3.tail.tail⟩

theorem diff_same {x y : Nat} (hx : x < 64) (hy : y < 64) : Go.Rt.bitDiff x y = Ha.bitDiff x y := by
  have key : ∀ x < 64, ∀ y < 64, Go.Rt.bitDiff x y = Ha.bitDiff x y := by decide +kernel
  exact key x hx y hy
theorem pick_no1 {l : Lot} {g : Nat} {m : Int} {b : Nat} (h : ¬ ((Ha.bitDiff b (fitTo l g (Ha.ways l 0) l.bunches.length) : Nat) : Int) = 0) : false = pickDo l g m b := by unfold pickDo; rw [decide_eq_false (by omega)]; rfl
theorem pick_all {l : Lot} {g : Nat} {m : Int} {b : Nat} {x : Bool} (h : ((Ha.bitDiff b (fitTo l g (Ha.ways l 0) l.bunches.length) : Nat) : Int) = 0) (h2 : ((Ha.ways l 0).all fun h => decide (m ≤ someOf h (listL b l.bunches.length))) = x) : x = pickDo l g m b := by unfold pickDo; rw [decide_eq_true (by omega), h2]; rfl
theorem fit_small {l : Lot} {g : Nat} {ws : List (List Int)} (h : l.bunches.length ≤ 6) : ∀ k, k ≤ 6 → fitTo l g ws k < 64 := by
  intro k hk
  have h1 := fit_lt l g ws k
  have h2 : 2 ^ k ≤ 2 ^ 6 := Nat.pow_le_pow_right (by omega) hk
  omega
theorem c59 {w0 w : World} {F : List (Nat × Obj)} (l : Lot) (p : At3) (lb mm : Nat) (hk : LK w0 F l p 0 lb mm) (g m : Int) (b : Nat) (hb : b < 64) (bf bl bc bm : Nat) (h1 : Ats w0 F bf 0 [.int .i64 ((fitTo l g.toNat (Ha.ways l 0) l.bunches.length) : Int)]) (h2 : Ats w0 F bl 0 [.pointer (some ⟨lb, 0, none⟩)]) (h3 : Ats w0 F bc 0 (l.cells p)) (h4 : Ats w0 F bm 0 [.int .i64 m]) (hs : St w0 w F) :
  Con Tryz.prog 59 [.int .i64 (b : Int), .pointer (some ⟨bf, 0, none⟩), .pointer (some ⟨bl, 0, none⟩), .pointer (some ⟨bc, 0, none⟩), .pointer (some ⟨bm, 0, none⟩)] w fun v w' => v = .bool (pickDo l g.toNat m b) ∧ St w0 w' F := by
  refine zFb (n := 37) func59 rfl rfl (zNl rfl) ?_
  have hlb := hk.ok.lb
  have hft := fit_small (l := l) (g := g.toNat) (ws := (Ha.ways l 0)) hlb l.bunches.length hlb
  refine zAe (fun K2 gc => (zAa (zCa (v := .int _ _) (cs := [_]) zAc rfl rfl rfl hs (fun b3 w4 gd => ?_))))
  refine zBf (cs := [_]) zAc zeroValue4 rfl gd (fun b6 w7 g0 => ?_)
  refine zAd (zAb (gc _ _ (zAe (fun gI gf => (zAe (fun gJ gg => (zAa (w_p (zAj isAgg3 g0 rfl rfl (zAk (i := 1) (vs := [_]) rfl rfl)) rfl ?_))))))))
  refine w_p (zAj isAgg3 g0.tail.tail rfl rfl h1) rfl (w_p (zGt (z' := ((Ha.bitDiff b (fitTo l g.toNat (Ha.ways l 0) l.bunches.length) : Nat) : Int)) (by rw [diff_same hb hft]) (zKe (x := b) (y := (fitTo l g.toNat (Ha.ways l 0) l.bunches.length)) rfl rfl rfl rfl (by first | rfl | omega) (by first | rfl | omega) (by first | omega | exact zBo (by omega)))) rfl ?_)
  refine w_p (zB2 rfl rfl rfl rfl) rfl (zAd (zAb (gg _ _ (zAu rfl rfl (fun g5 => ?_) (fun g5 => ?_)))))
  ·
   try simp only [zS] at g5
   refine zAe (fun gK gh => (zAa (zA6 (i := 0) (v := .bool _) (vs := [_]) zAc sizeOf4 rfl rfl rfl rfl rfl (by simp [Value.oneCell']) g0 rfl (zNl rfl) (fun gL g6 => ?_))))
   refine zAd (zAb (gh _ _ (zAy (zAg (zJa (l := [.cell 6 4]) (vs := [_]) rfl ⟨⟨rfl, _, rfl, zD0 isAgg4 g6 (zAk (i := 0) (vs := [_]) rfl rfl)⟩, trivial⟩ ?_)))))
   first
     | exact ⟨congrArg Value.bool (pick_no1 (by assumption)), g6.tail.tail⟩
     | exact ⟨congrArg Value.bool (pick_all (by assumption) hal), g6.tail.tail⟩
  try simp only [zS] at g5
  refine zAs (zAb (gf _ _ (zAe (fun gM gi => (zAe (fun gN gj => (zAa (w_p (zAj isAgg92 g0.tail.tail rfl rfl h2) rfl (zAr zAc call43 rfl rfl rfl rfl (c43 _ g0) ?_)))))))))
  rintro _ gP ⟨bp, rfl, gk⟩
  refine zAd (zAb (gj _ _ (zAw ?_)))
  refine zHp ([_]) (fun i Bx => Bx = [(b6, blk 4 [.bool false])] ∧ ((Ha.ways l 0).take i).all (fun h => decide (m ≤ someOf h (listL b l.bunches.length))) = true) (fun c Bx => c = .ret ∧ Bx = [(b6, blk 4 [.bool false])] ∧ (Ha.ways l 0).all (fun h => decide (m ≤ someOf h (listL b l.bunches.length))) = false) rfl rfl rfl call75 (zFg l p 0 lb mm hk.cons.cons bp (zAk (i := 0) (vs := [_]) rfl rfl)) gk (List.Perm.swap _ _ _) ⟨rfl, rfl⟩ ?_ ?_ ?_
  ·
   intro lp i hi Bx Xr Xr2 gQ hJ hs K gm
   obtain ⟨rfl, hal⟩ := hJ
   have hi2 : i < (Ha.ways l 0).length := by simpa using hi
   rw [List.getElem_map, List.getElem_map]
   have hpl := zG9 hk.ok (List.mem_map.2 ⟨_, List.getElem_mem hi2, rfl⟩)
   have hat := zHr (Ha.ways l 0)[i]
   have hwi := way_in hk.ok (List.getElem_mem hi2)
   obtain ⟨h, hh⟩ : ∃ h, h = pad6 (Ha.ways l 0)[i] := ⟨_, rfl⟩
   rw [← hh] at hpl hat ⊢
   have hh6 := hpl.1
   have hx5 : Ats w0 ((bp, blk 92 [.pointer (some ⟨lb, 0, none⟩)]) :: (b3, blk 3 [.int .i64 (b : Int)]) :: F) b3 0 [.int .i64 (b : Int)] := zAk (i := 1) rfl rfl
   replace hs := (show St _ _ (_ :: (Xr ++ (_ :: _ :: F))) from hs)
   refine zAa (zBf (cs := iv [0,0,0,0,0,0]) zAc zeroValue101 rfl hs (fun gn gR gq => ?_))
   refine zDf (i := 0) (l := _) zAc sizeOf101 (by first | omega | rfl | (simp only [hh6, zL] <;> omega)) rfl rfl rfl rfl rfl gq rfl (by first | omega | rfl | (simp only [hh6, zL] <;> omega)) (fun gS gr => ?_)
   refine zAd (zAb (gm _ _ (_ :: _ :: []) gr (fun gU g3 => ?_)))
   replace g3 := (show St _ _ (_ :: _ :: Xr2 ++ (_ :: _ :: F)) from g3)
   refine zAw ?_
   refine zAe (fun gV gt => (zAa (zA5 rfl rfl (zAd (zAb (gt _ _ (zAe (fun gW gu => (zAe (fun gX gv => (zAa (w_p (zAj isAgg3 g3.tail.tail.drop rfl rfl hx5) rfl ?_))))))))))))
   refine w_p (zAf (o := 1) (i := 1) underlying26 rfl sizeOf23 rfl rfl rfl) rfl (w_p (zAj isAgg23 g3.tail.tail.drop.tail.tail rfl rfl (show Ats _ _ _ _ [_] from Ats.part h3 1 1)) rfl (w_p (zA8 underlying23 rfl rfl) rfl (zAr zAc call54 rfl rfl rfl rfl (c54 _ _ (by omega) (by omega) g3) ?_)))
   rintro _ gY ⟨Bl, hown, gw⟩
   have g7 := St.perm (L := Bl ++ ([_,_] ++ (Xr2 ++ (_ :: _ :: F)))) gw (zBc Bl [_,_] _)
   replace g7 := (show St _ _ (_ :: _ :: (Bl ++ (Xr2 ++ (_ :: _ :: F)))) from g7)
   obtain ⟨aL, cL, rfl, hslL, _, _⟩ := zGg (w0 := w0) hown
   have hll := zDh b l.bunches.length
   refine w_p (zA8 underlying43 rfl rfl) rfl (w_p (zAi (v := _) rfl rfl) rfl (zAd (zAb (gv _ _ (zAw ?_)))))
   refine zBs [8,10,24,25,26,27,28,29,30,31,32,33] [8,24] (fun k vs w => ∃ (q : Nat), vs = [.int .i64 (someOf ((Ha.ways l 0)[i]'hi2) ((listL b l.bunches.length).take q)), .int .i64 q] ∧ q ≤ (listL b l.bunches.length).length ∧ k = (listL b l.bunches.length).length - q ∧ St w0 w ((gn, blk 101 (iv h)) :: (b6, blk 4 [.bool false]) :: (Bl ++ (Xr2 ++ ((bp, blk 92 [.pointer (some ⟨lb, 0, none⟩)]) :: (b3, blk 3 [.int .i64 (b : Int)]) :: F))))) ((listL b l.bunches.length).length) ?_ ?_
   ·
    exact ⟨0, rfl, by omega, by omega, g7⟩
   intro k vs μ gZ hI hD gx
   obtain ⟨q, rfl, hqa, rfl, hs⟩ := hI
   refine zAe (fun hG gy => (zAa (w_p (zBw rfl rfl rfl rfl) rfl (zAd (zAb (gy _ _ (zAe (fun hH gz => (zAu rfl rfl (fun g8 => ?_) (fun g8 => ?_))))))))))
   ·
    try simp only [zS] at g8
    refine zAs (zAb (gz _ _ (zAe (fun hO gA => (zAw ?_)))))
    refine zAe (fun hX gB => ?_)
    have hq2 : q < (listL b l.bunches.length).length := by omega
    obtain ⟨bq, oq, hbq, hxq0⟩ := zC9 hslL hq2
    subst hbq
    have hxq := hxq0.top (F := Xr2 ++ ((bp, blk 92 [.pointer (some ⟨lb, 0, none⟩)]) :: (b3, blk 3 [.int .i64 (b : Int)]) :: F))
    have hzi := zGi b l.bunches.length _ (List.getElem_mem hq2)
    have hsi := someOf_in hwi ((listL b l.bunches.length).take q)
    have hsl : ((listL b l.bunches.length).take q).length = q := by rw [List.length_take]; omega
    have hgz := hwi ((listL b l.bunches.length)[q]'hq2).toNat
    rw [← hat] at hgz
    refine zAa (w_p (zA3 underlying43 sizeOf3 rfl rfl rfl rfl (i := _) rfl (by omega)) rfl (w_p (zAj isAgg3 hs.tail.tail rfl rfl hxq) rfl (zBe rfl rfl (zAd (zAb (gB _ _ (zAa (zAz rfl rfl (zAz rfl rfl (w_p (zBr underlying101 sizeOf3 rfl rfl rfl rfl (i := ((listL b l.bunches.length)[q]'hq2).toNat) (by first | rfl | omega) (by omega)) rfl ?_))))))))))
    refine w_p (zAj isAgg3 hs rfl rfl (zB7 (i := 0) (j := ((listL b l.bunches.length)[q]'hq2).toNat) rfl (by first | omega | rfl | (simp only [hh6, zL] <;> omega)))) rfl ?_
    refine w_p (zBg rfl rfl rfl rfl (by omega) (by omega)) rfl (zBe rfl rfl (zAd (zAl (zAb (gA _ _ (zAa (w_p (zBg rfl rfl rfl rfl (by omega) (by omega)) rfl ?_)))))))
    refine zAz rfl rfl (zAd (zAb (gx _ _ (nxI ((listL b l.bunches.length).length - (q + 1)) (by omega) ?_))))
    exact ⟨q + 1, iv2 (by rw [List.take_succ_eq_append_getElem hq2, someOf_snoc, ← hat]) rfl, by omega, rfl, hs⟩
   try simp only [zS] at g8
   refine zBl (zAm (zAm (zA0 (zAb (gu _ _ (zAe (fun hY gC => ?_)))))))
   have hqe : q = (listL b l.bunches.length).length := by omega
   have hte : (listL b l.bunches.length).take q = (listL b l.bunches.length) := by rw [List.take_of_length_le (by omega)]
   rw [hte]
   have g4 := (St.perm (L := [_,_] ++ (Bl ++ (Xr2 ++ (_ :: _ :: F)))) hs (zBc [_,_] Bl _)).drop
   replace g4 := (show St _ _ (_ :: _ :: (Xr2 ++ (_ :: _ :: F))) from g4)
   refine zAa (zAz rfl rfl (w_p (zAj isAgg3 g4.tail.tail.drop.tail.tail rfl rfl h4) rfl (w_p (zBw rfl rfl rfl rfl) rfl (zAd (zAb (gC _ _ (zAu rfl rfl (fun g9 => ?_) (fun g9 => ?_))))))))
   ·
    try simp only [zS] at g9
    refine zAe (fun j0 gE => (zAa (zA6 (i := 1) (v := .bool _) (vs := [_]) zAc sizeOf4 rfl rfl rfl rfl rfl (by simp [Value.oneCell']) g4 rfl (zNl rfl) (fun j1 gF => ?_))))
    refine zAd (zAb (gE _ _ (zAy (zAv (rd_ret (_ :: []) gF.tail ?_)))))
    exact ⟨rfl, rfl, all_not hi2 (decide_eq_false (by omega))⟩
   try simp only [zS] at g9
   refine zAs (zAl (zFy (_ :: []) g4.tail ?_))
   exact ⟨rfl, all_take hi2 hal (decide_eq_true (by omega))⟩
  ·
   intro bd Bx j2 hJ hs
   obtain ⟨rfl, hal⟩ := hJ
   rw [List.length_map, List.length_map, List.take_length] at hal
   refine zAl (zAb (gi _ _ (zAe (fun j3 gG => (zAa (zA6 (i := 1) (v := .bool _) (vs := [_]) zAc sizeOf4 rfl rfl rfl rfl rfl (by simp [Value.oneCell']) hs rfl (zNl rfl) (fun j4 gH => ?_)))))))
   refine zAd (zAb (gG _ _ (zAy (zHm (i := 0) (l := [.cell 6 4]) (vs := [_]) gH rfl rfl (fun j5 ga => ⟨⟨⟨rfl, _, rfl, zD0 isAgg4 ga (zAk (i := 1) (vs := [_]) rfl rfl)⟩, trivial⟩, ?_⟩)))))
   first
     | exact ⟨congrArg Value.bool (pick_no1 (by assumption)), ga.tail.tail.tail.tail⟩
     | exact ⟨congrArg Value.bool (pick_all (by assumption) hal), ga.tail.tail.tail.tail⟩
  intro bd c Bx j6 hJ hs
  obtain ⟨rfl, rfl, hal⟩ := hJ
  refine zAy (zAv (zAg (zHm (i := 0) (l := [.cell 6 4]) (vs := [_]) hs rfl rfl (fun j7 gb => ⟨⟨⟨rfl, _, rfl, zD0 isAgg4 gb (zAk (i := 1) (vs := [_]) rfl rfl)⟩, trivial⟩, ?_⟩))))
  first
    | exact ⟨congrArg Value.bool (pick_no1 (by assumption)), gb.tail.tail.tail.tail⟩
    | exact ⟨congrArg Value.bool (pick_all (by assumption) hal), gb.tail.tail.tail.tail⟩

end Go.Proofs.Hn
set_option maxRecDepth 20000
namespace Go.Proofs.Hn
open Go.Proofs.Tryz
open Go.Rt Go.Rt.Ha
attribute [local irreducible] WL WC Con Yd At Ats Sl Agree DW

theorem fit_skip {l : Lot} {g : Nat} {ws : List (List Int)} {i : Nat} (h : ((setW l i ws &&& 1 : Nat) : Int) = 1 ∨ (0 : Int) < ((setW l i ws >>> (g + 2) : Nat) : Int)) : fitTo l g ws (i + 1) = fitTo l g ws i := by simp only [fitTo]; rw [if_pos (by omega)]
theorem fit_add {l : Lot} {g : Nat} {ws : List (List Int)} {i : Nat} (h : ¬ ((setW l i ws &&& 1 : Nat) : Int) = 1) (h2 : ((setW l i ws >>> (g + 2) : Nat) : Int) ≤ 0) : fitTo l g ws (i + 1) = fitTo l g ws i ||| 1 <<< i := by simp only [fitTo]; rw [if_neg (by omega)]
theorem shl_32 {i : Nat} (h : i < 6) : 1 <<< i < 64 := by
  match i, h with
  | 0, _ => decide
  | 1, _ => decide
  | 2, _ => decide
  | 3, _ => decide
  | 4, _ => decide
  | 5, _ => decide
theorem c27 {w0 w : World} {F : List (Nat × Obj)} (l : Lot) (p : At3) (hm : LIn w0 F l p) (g m : Int) (hs : St w0 w F) :
  Con Tryz.prog 27 [.agg (l.cells p).toArray, .int .i64 g, .int .i64 m] w fun v w' => ∃ B a c, v = .tuple #[.slice a (pickP l g m).1.length c, .int .i64 (pickP l g m).2] ∧ Sl w0 B a 1 ((pickP l g m).1.map fun x => [Value.int .i64 x]) ∧ St w0 w' (B ++ F) := by
  refine zAt (n := 63) func27 rfl rfl (zNl rfl) ?_
  have hlb0 := hm.lb
  refine zAe (fun K2 gq => (zAa (zCa (v := .agg #[.slice _ _ _, .slice _ _ _, .slice _ _ _]) (cs := [_,_,_]) zAc rfl rfl rfl hs (fun b3 w4 gr => ?_))))
  refine zCa (v := .int _ _) (cs := [_]) zAc rfl rfl rfl gr (fun b6 w7 gt => ?_)
  refine zCa (v := .int _ _) (cs := [_]) zAc rfl rfl rfl gt (fun b9 gV gf => ?_)
  refine zA5 rfl rfl (zA5 rfl rfl (zAd (zAb (gq _ _ (w_scope ?_)))))
  refine zAe (fun gW gg => (zAa (w_p (zA4 (vs := [_,_,_]) isAgg26 sizeOf26 gf rfl rfl (zAk (i := 2) (vs := [_,_,_]) rfl rfl)) rfl (w_p (zCc (fv := []) (cv := [_,_,_]) rfl rfl rfl rfl) rfl ?_))))
  refine zAr zAc call41 rfl rfl rfl rfl (c41 l p hm.cons.cons.cons (.func (.func 56) #[] #[.pointer (some ⟨b6,0, none⟩), .pointer (some ⟨b3,0, none⟩), .pointer (some ⟨b9,0, none⟩)]) (pickE l g m) (fun X w hs => zDd call56 (c56 l p g m hm.lg _ _ _ (Ats.app (zAk (i := 1) (vs := [_]) rfl rfl)) (Ats.app (zAk (i := 2) (vs := l.cells p) rfl rfl)) (Ats.app (zAk (i := 0) (vs := [_]) rfl rfl)) hs)) gf) ?_
  rintro _ gX (⟨hee, rfl, g0⟩ | ⟨hee, lb, mm, M, rfl, hM, g0⟩)
  ·
   refine w_p (zAi (v := .tuple _) rfl rfl) rfl (w_p (zAp (v := .pointer _) rfl rfl rfl) rfl (w_p (zAp (v := .int _ _) rfl rfl rfl) rfl (zBf (cs := [_]) zAc zeroValue92 rfl g0 (fun gY gZ gu => ?_))))
   refine zA6 (i := 0) (v := .pointer _) (vs := [_]) zAc sizeOf92 rfl rfl rfl rfl rfl (by simp [Value.oneCell']) gu rfl (zNl rfl) (fun hD gv => ?_)
   refine zBe rfl rfl (zAd (zAb (gg _ _ (zAe (fun hG hH => (zAe (fun hO gw => (zAa (zAz rfl rfl (w_p (zB2 rfl rfl rfl rfl) rfl (zAd (zAb (gw _ _ (zAu rfl rfl (fun g6 => ?_) (fun g6 => ?_)))))))))))))))
   ·
    try simp only [zS] at g6
    refine zAe (fun hX gx => (zAa (zAz rfl rfl (zA5 rfl rfl (zBe rfl rfl (zAd (zAb (gx _ _ (zAy (zAg (q_ng_ret ?_)))))))))))
    refine zA1 (l := [.tmp 6, .tmp 7]) (vs := [_,_]) rfl ⟨⟨rfl, show _ = (.slice _ _ _ : Value) from rfl⟩, ⟨rfl, (rfl : _ = Value.int _ _)⟩, trivial⟩ ?_
    have hq : pickP l g m = ([], enterE l (pickE l g m)) := by unfold pickP; rw [if_pos hee]
    exact ⟨[], none, 0, by rw [hq]; rfl, by rw [hq]; exact Sl.nil _ _, gv.tail.tail.tail.tail⟩
   exfalso
   try simp only [zS] at g6
   first | exact hee g6 | exact g6 hee
  replace g0 := (show St _ _ (M ++ (_ :: _ :: _ :: _ :: F)) from g0)
  have hk := zGx g0 hm.cons.cons.cons (zB4 hee).1
  have hew := zB4 hee
  have hbt := hk.bt
  have hlg := hk.ok.lg
  have hlb := hk.ok.lb
  have hlc := hk.ok.lc
  refine w_p (zAi (v := .tuple _) rfl rfl) rfl (w_p (zAp (v := .pointer _) rfl rfl rfl) rfl (w_p (zAp (v := .int _ _) rfl rfl rfl) rfl (zBf (cs := [_]) zAc zeroValue92 rfl g0 (fun gh hY gy => ?_))))
  refine zA6 (i := 0) (v := .pointer _) (vs := [_]) zAc sizeOf92 rfl rfl rfl rfl rfl (by simp [Value.oneCell']) gy rfl (zNl rfl) (fun j0 gz => ?_)
  refine zBe rfl rfl (zAd (zAb (gg _ _ (zAe (fun j1 gA => (zAe (fun j2 gB => (zAa (zAz rfl rfl (w_p (zB2 rfl rfl rfl rfl) rfl (zAd (zAb (gB _ _ (zBx rfl rfl ?_))))))))))))))
  refine zAs (zAb (gA _ _ (zAe (fun j3 gC => (zAa (zBf (cs := [_]) zAc zeroValue3 rfl gz (fun gi j4 gE => ?_)))))))
  refine zA6 (i := 0) (v := .int _ _) (vs := [_]) zAc sizeOf3 rfl rfl rfl rfl rfl (by simp [Value.oneCell']) gE rfl (zNl rfl) (fun j5 gj => ?_)
  refine zAd (zAb (gC _ _ (zAe (fun j6 gF => (w_label ?_)))))
  refine zAb (gF _ _ (zAe (fun j7 gG => (zAe (fun j8 gH => ?_)))))
  have hx3 : Ats w0 ((lb, blk 142 [.slice p.ag l.grades.length p.cg, .slice p.ab l.bunches.length p.cb, .slice p.ac l.counts.length p.cc, .int .i64 ((0 : Nat) : Int), .map (some mm)]) :: (b9, blk 3 [.int .i64 m]) :: (b6, blk 3 [.int .i64 g]) :: (b3, blk 26 (l.cells p)) :: F) b3 0 (l.cells p) := zAk (i := 3) rfl rfl
  have hx4 : Ats w0 ((lb, blk 142 [.slice p.ag l.grades.length p.cg, .slice p.ab l.bunches.length p.cb, .slice p.ac l.counts.length p.cc, .int .i64 ((0 : Nat) : Int), .map (some mm)]) :: (b9, blk 3 [.int .i64 m]) :: (b6, blk 3 [.int .i64 g]) :: (b3, blk 26 (l.cells p)) :: F) b6 0 [.int .i64 g] := zAk (i := 2) rfl rfl
  have hx5 : Ats w0 ((lb, blk 142 [.slice p.ag l.grades.length p.cg, .slice p.ab l.bunches.length p.cb, .slice p.ac l.counts.length p.cc, .int .i64 ((0 : Nat) : Int), .map (some mm)]) :: (b9, blk 3 [.int .i64 m]) :: (b6, blk 3 [.int .i64 g]) :: (b3, blk 26 (l.cells p)) :: F) b9 0 [.int .i64 m] := zAk (i := 1) rfl rfl
  have hpe := pickE_zero hew.2.1
  refine zAa (w_p (zAf (o := 1) (i := 1) underlying26 rfl sizeOf23 rfl rfl rfl) rfl (w_p (zAj isAgg23 gj.tail.tail.drop rfl rfl (show Ats _ _ _ _ [_] from Ats.part hx3 1 1)) rfl (w_p (zA8 underlying23 rfl rfl) rfl (w_p (zAi (v := _) rfl rfl) rfl ?_))))
  refine zAd (zAb (gH _ _ (zAw ?_)))
  refine zBs [11,12,13,28,29,30,31,32,33,34,35,36,37,38,39,40,41,42,43,44,45,46,47,48,49,50,51] [28] (fun k vs w => ∃ (i : Nat) (M : List (Nat × Obj)), vs = [.int .i64 i] ∧ i ≤ l.bunches.length ∧ k = l.bunches.length - i ∧ Memo l mm M ∧ St w0 w ((gi, blk 3 [.int .i64 ((fitTo l g.toNat (Ha.ways l 0) i) : Int)]) :: (gh, blk 92 [.pointer (some ⟨lb, 0, none⟩)]) :: (M ++ ((lb, blk 142 [.slice p.ag l.grades.length p.cg, .slice p.ab l.bunches.length p.cb, .slice p.ac l.counts.length p.cc, .int .i64 ((0 : Nat) : Int), .map (some mm)]) :: (b9, blk 3 [.int .i64 m]) :: (b6, blk 3 [.int .i64 g]) :: (b3, blk 26 (l.cells p)) :: F)))) (l.bunches.length) ?_ ?_
  ·
   exact ⟨0, M, rfl, by omega, by omega, hM, gj⟩
  intro k vs μ j9 hI ja g7
  obtain ⟨i, M, rfl, hia, rfl, hM, hs⟩ := hI
  refine zAe (fun jb gI => (zAa (w_p (zBw rfl rfl rfl rfl) rfl (zAd (zAb (gI _ _ (zAe (fun jc gJ => (zAu rfl rfl (fun g8 => ?_) (fun g8 => ?_))))))))))
  ·
   try simp only [zS] at g8
   refine zAs (zAb (gJ _ _ (zAe (fun jd g9 => (zAw ?_)))))
   refine zAe (fun je gK => (zAa (zAz rfl rfl (zBe rfl rfl (zAd (zAb (gK _ _ (zAe (fun jf gL => ?_)))))))))
   have hi2 : i < l.bunches.length := by omega
   have hsw := setW_lt hk.ok i (Ha.ways l 0)
   have hft := fit_small (l := l) (g := g.toNat) (ws := (Ha.ways l 0)) hk.ok.lb i (by omega)
   have jg := shl_32 (i := i) (by omega)
   refine zAa (w_p (zAj isAgg92 hs rfl rfl (zAk (i := 1) (vs := [_]) rfl rfl)) rfl (zAz rfl rfl (zAr zAc call53 rfl rfl rfl rfl (c53 (X := (_ :: _ :: [])) l _ 0 lb mm hk i hi2 hM hs) ?_)))
   rintro _ jh ⟨rfl, M68, g3, ga⟩
   replace ga := (show St _ _ (_ :: _ :: M68 ++ (_ :: _ :: _ :: _ :: F)) from ga)
   refine w_p (zAi (v := .tuple _) rfl rfl) rfl (w_p (zAp (v := .agg _) rfl rfl rfl) rfl (w_p (zAp (v := .int _ _) rfl rfl rfl) rfl (zBf (cs := [_,_]) zAc zeroValue46 rfl ga (fun ji jj gM => ?_))))
   refine zA6 (i := 0) (v := .agg #[.int _ _, .int _ _]) (vs := [_,_]) zAc sizeOf46 rfl rfl rfl rfl rfl (by simp [Value.oneCell']) gM rfl (zNl rfl) (fun jk g4 => ?_)
   refine zBe rfl rfl (zAd (zAb (gL _ _ (zAe (fun jl gN => (zAe (fun jm gk => (zAa (zAz rfl rfl (w_p (zI2 (x := (setW l i (Ha.ways l 0))) (y := 1) rfl rfl rfl rfl (by first | rfl | omega) rfl (by first | omega | exact zBo (by omega)) (by first | omega | exact zBo (by omega))) rfl ?_))))))))))
   refine w_p (zB6 rfl rfl rfl rfl) rfl (w_p (zAi (v := .bool _) rfl rfl) rfl (zBi (fun gb => ?_) (fun gb => ?_)))
   ·
    try simp only [zS] at gb
    refine zAh rfl rfl rfl ?_
    refine zAh rfl rfl rfl ?_
    refine zAh rfl rfl rfl ?_
    refine zAh rfl rfl rfl ?_
    refine zAh rfl rfl rfl ?_
    refine w_p (zAx (v := _) rfl rfl rfl rfl) rfl (zAd (zAb (gk _ _ (zB1 rfl rfl ?_))))
    refine zBl (zAm (zA0 (zAb (g9 _ _ (zAa (w_p (zBg rfl rfl rfl rfl (by omega) (by omega)) rfl (zAz rfl rfl (zAd (zAb (g7 _ _ (nxI (l.bunches.length - (i + 1)) (by omega) ?_)))))))))))
    first
      | exact ⟨i + 1, M68, rfl, by omega, rfl, g3, by rw [fit_skip (by first | exact .inl (by assumption) | exact .inr (by assumption))]; exact g4.tail⟩
      | exact ⟨i + 1, M68, rfl, by omega, rfl, g3, by rw [fit_add (by assumption) (by assumption)]; exact g4.tail⟩
   try simp only [zS] at gb
   refine w_y rfl rfl rfl (zA2 rfl rfl) rfl ?_
   refine w_y rfl rfl rfl (zAj isAgg3 g4.tail.tail.tail.drop rfl rfl hx4) rfl ?_
   refine w_y rfl rfl rfl (zBg rfl rfl rfl rfl (by omega) (by omega)) rfl ?_
   refine w_y rfl rfl rfl (zJ9 (x := (setW l i (Ha.ways l 0))) (y := g.toNat + 2) rfl rfl rfl rfl (by first | rfl | omega) (by first | rfl | omega) (by first | omega | exact zBo (by omega))) rfl ?_
   refine w_y rfl rfl rfl (zD5 rfl rfl rfl rfl) rfl ?_
   refine w_p (zA9 (v := .bool _) rfl rfl rfl rfl) rfl (zAd (zAb (gk _ _ (zAu rfl rfl (fun gc => ?_) (fun gc => ?_)))))
   ·
    try simp only [zS] at gc
    refine zBl (zAm (zA0 (zAb (g9 _ _ (zAa (w_p (zBg rfl rfl rfl rfl (by omega) (by omega)) rfl (zAz rfl rfl (zAd (zAb (g7 _ _ (nxI (l.bunches.length - (i + 1)) (by omega) ?_)))))))))))
    first
      | exact ⟨i + 1, M68, rfl, by omega, rfl, g3, by rw [fit_skip (by first | exact .inl (by assumption) | exact .inr (by assumption))]; exact g4.tail⟩
      | exact ⟨i + 1, M68, rfl, by omega, rfl, g3, by rw [fit_add (by assumption) (by assumption)]; exact g4.tail⟩
   try simp only [zS] at gc
   refine zAs (zAb (gN _ _ (zCn [4] [(0,1),(1,0),(2,0),(3,0),(4,3)] zCb (by kernel_rfl) g4 (fun jn gm => ?_))))
   refine zBd rfl zAc rfl gm (fun _ hq => (zAj isAgg3 hq rfl rfl (zAk (i := 1) (vs := [_]) rfl rfl))) ?_
   refine d_w rfl (fun _ => zA2 rfl rfl) rfl ?_
   refine d_w rfl (fun _ => zI1 (x := 1) (y := i) rfl rfl rfl rfl rfl (by first | rfl | omega) (by first | omega | exact zBo (by omega)) (by first | omega | exact zBo (by omega))) rfl ?_
   refine d_w rfl (fun _ => y_or (x := (fitTo l g.toNat (Ha.ways l 0) i)) (y := 1 <<< i) rfl rfl rfl rfl (by first | rfl | omega) (by first | rfl | omega) (by first | omega | exact zBo (by omega)) (by first | omega | exact zBo (by omega))) rfl ?_
   refine zDc rfl ?_
   refine zA6 (i := 1) (v := .int _ _) (vs := [_]) zAc sizeOf3 rfl rfl rfl rfl rfl (by simp [Value.oneCell']) gm rfl (zNl rfl) (fun jo gn => ?_)
   refine zAd (qn ?_)
   refine zCf ?_
   refine zAl (zAb (g9 _ _ (zAa (w_p (zBg rfl rfl rfl rfl (by omega) (by omega)) rfl (zAz rfl rfl (zAd (zAb (g7 _ _ (nxI (l.bunches.length - (i + 1)) (by omega) ?_)))))))))
   first
     | exact ⟨i + 1, M68, rfl, by omega, rfl, g3, by rw [fit_skip (by first | exact .inl (by assumption) | exact .inr (by assumption))]; exact gn.tail⟩
     | exact ⟨i + 1, M68, rfl, by omega, rfl, g3, by rw [fit_add (by assumption) (by assumption)]; exact gn.tail⟩
  try simp only [zS] at g8
  refine zBl (zAm (zAm (zA0 (zAb (gG _ _ (zAe (fun jp gP => ?_)))))))
  have hin : i = l.bunches.length := by omega
  subst hin
  refine zAa (w_p (zAf (o := 1) (i := 1) underlying26 rfl sizeOf23 rfl rfl rfl) rfl (w_p (zAj isAgg23 hs.tail.tail.drop rfl rfl (show Ats _ _ _ _ [_] from Ats.part hx3 1 1)) rfl (w_p (zA8 underlying23 rfl rfl) rfl (w_p (zCc (fv := []) (cv := [_,_,_,_]) rfl rfl rfl rfl) rfl ?_))))
  refine zAr zAc call58 rfl rfl rfl rfl (c58 l.bunches.length (by omega) (.func (.func 59) #[] #[.pointer (some ⟨gi,0, none⟩), .pointer (some ⟨gh,0, none⟩), .pointer (some ⟨b3,0, none⟩), .pointer (some ⟨b9,0, none⟩)]) (pickDo l g.toNat m) (fun b X w hb hs => zDd call59 ((c59 l p lb mm hk.app.cons.cons.app g m b (by have := shl_lt64 hk.ok.lb; omega) _ _ _ _ (Ats.app (zAk (i := 0) (vs := [_]) rfl rfl)) (Ats.app (zAk (i := 1) (vs := [_]) rfl rfl)) hx3.app.cons.cons.app hx5.app.cons.cons.app hs).mono (fun v w2 h => ⟨h.1, [], h.2⟩))) hs) ?_
  rintro _ jq ⟨B, aL, cL, rfl, hslB, g5⟩
  replace g5 := (show St _ _ (B ++ (_ :: _ :: M ++ (_ :: _ :: _ :: _ :: F))) from g5)
  refine w_p (zAi (v := .tuple _) rfl rfl) rfl (w_p (zAp (v := .slice _ _ _) rfl rfl rfl) rfl (w_p (zAp (v := .bool _) rfl rfl rfl) rfl (w_p (zAo (v := .slice _ _ _) rfl rfl) rfl (w_p (zAo (v := .bool _) rfl rfl) rfl ?_))))
  refine zAd (zAb (gP _ _ (zAe (fun jr gQ => (zAe (fun js gR => (zAa (w_p (zAi (v := .bool _) rfl rfl) rfl (w_p (zDz rfl rfl) rfl ?_)))))))))
  refine zAd (zAb (gR _ _ (zAu rfl rfl (fun gd => ?_) (fun gd => ?_))))
  ·
   try simp only [zS] at gd
   refine zAe (fun jt gS => (zAa (zA5 rfl rfl (zA5 rfl rfl (zAd (zAb (gS _ _ (zAy (zAg (q_ng_ret ?_))))))))))
   refine zA1 (l := [.tmp 6, .tmp 7]) (vs := [_,_]) rfl ⟨⟨rfl, show _ = (.slice _ _ _ : Value) from rfl⟩, ⟨rfl, (rfl : _ = Value.int _ _)⟩, trivial⟩ ?_
   first
     | (have hq : pickP l g m = ((fewest (pickDo l g.toNat m) l.bunches.length).1,0) := by unfold pickP; rw [if_neg (by simp [hee]), if_pos (by assumption)]
        exact ⟨B, aL, cL, by rw [hq]; rfl, by rw [hq]; exact hslB, (zEg (zEg (zEg (zEg (kq_opq (zEg (zEg g5)))))))⟩)
     | (have hq : pickP l g m = ([], 9) := by unfold pickP; rw [if_neg (by simp [hee]), if_neg (by simp; assumption)]
        exact ⟨[], none, 0, by rw [hq]; rfl, by rw [hq]; exact Sl.nil _ _, g5.drop.tail.tail.drop.tail.tail.tail.tail⟩)
  try simp only [zS] at gd
  refine zAs (zAb (gQ _ _ (zAe (fun ju gU => (zAa (w_p (zAi (v := .slice _ _ _) rfl rfl) rfl (w_p (zAo (v := .slice _ _ _) rfl rfl) rfl (zA5 rfl rfl (zAd (zAb (gU _ _ (zAy (q_ng_ret ?_)))))))))))))
  refine zA1 (l := [.tmp 6, .tmp 7]) (vs := [_,_]) rfl ⟨⟨rfl, show _ = (.slice _ _ _ : Value) from rfl⟩, ⟨rfl, (rfl : _ = Value.int _ _)⟩, trivial⟩ ?_
  first
    | (have hq : pickP l g m = ((fewest (pickDo l g.toNat m) l.bunches.length).1,0) := by unfold pickP; rw [if_neg (by simp [hee]), if_pos (by assumption)]
       exact ⟨B, aL, cL, by rw [hq]; rfl, by rw [hq]; exact hslB, (zEg (zEg (zEg (zEg (kq_opq (zEg (zEg g5)))))))⟩)
    | (have hq : pickP l g m = ([], 9) := by unfold pickP; rw [if_neg (by simp [hee]), if_neg (by simp; assumption)]
       exact ⟨[], none, 0, by rw [hq]; rfl, by rw [hq]; exact Sl.nil _ _, g5.drop.tail.tail.drop.tail.tail.tail.tail⟩)

theorem c62 {w0 w : World} {F : List (Nat × Obj)} (l : Lot) (p : At3) (hm : LIn w0 F l p) (hc : (check l).2.2 = 0) (b : Nat) (hb : b < 1000) (bc : Nat) (h1 : Ats w0 F bc 0 (l.cells p)) (hs : St w0 w F) :
  Con Tryz.prog 62 [.int .i64 (b : Int), .pointer (some ⟨bc, 0, none⟩)] w fun v w' => v = .bool (!(Ha.ways l b).isEmpty) ∧ ∃ Y, St w0 w' (Y ++ F) := by
  refine zAt (n := 8) func62 rfl rfl (zNl rfl) ?_
  refine zAe (fun K2 g3 => (zAa (zA5 rfl rfl (zAd (zAb (g3 _ _ (zAe (fun K4 g4 => (zAa (w_p (zA4 (vs := [_,_,_]) isAgg26 sizeOf26 hs rfl rfl h1) rfl ?_))))))))))
  refine zAz rfl rfl (zAr zAc call63 rfl rfl rfl rfl (c63 l p b hs) ?_)
  rintro _ w6 ⟨lb, mm, rfl, g0⟩
  replace g0 := (show St _ _ (_ :: _ :: F) from g0)
  have hk := lk_but (but := b) g0 hm.cons hc hb
  refine zAr zAc call64 rfl rfl rfl rfl (c64 l p b lb mm hk g0) ?_
  rintro _ w9 ⟨rfl, g5⟩
  refine w_p (zAo (v := .bool _) rfl rfl) rfl (zAd (zAb (g4 _ _ (zAy (zA1 (l := [.tmp 3]) (vs := [_]) rfl ⟨⟨rfl, (rfl : _ = Value.bool _)⟩, trivial⟩ ?_)))))
  exact ⟨rfl, [], g5.tail.tail⟩

theorem c29 {w0 w : World} {F : List (Nat × Obj)} (l : Lot) (p : At3) (hm : LIn w0 F l p)  (hs : St w0 w F) :
  Con Tryz.prog 29 [.agg (l.cells p).toArray] w fun v w' => ∃ B a c, v = .tuple #[.slice a (wrongP l).1.length c, .int .i64 (wrongP l).2] ∧ Sl w0 B a 1 ((wrongP l).1.map fun x => [Value.int .i64 x]) ∧ St w0 w' (B ++ F) := by
  refine zAt (n := 27) func29 rfl rfl (zNl rfl) ?_
  refine zAe (fun K2 g6 => (zAa (zCa (v := .agg #[.slice _ _ _, .slice _ _ _, .slice _ _ _]) (cs := [_,_,_]) zAc rfl rfl rfl hs (fun b3 w4 g5 => ?_))))
  refine zA5 rfl rfl (zA5 rfl rfl (zAd (zAb (g6 _ _ (zAe (fun K7 g7 => (zAe (fun K9 g8 => (zAa (w_p (zA4 (vs := [_,_,_]) isAgg26 sizeOf26 g5 rfl rfl (zAk (i := 0) (vs := [_,_,_]) rfl rfl)) rfl ?_))))))))))
  refine zAr zAc call61 rfl rfl rfl rfl (c61 l _ hm.cons g5) ?_
  rintro _ gd ⟨rfl, g0⟩
  refine w_p (zAi (v := .tuple _) rfl rfl) rfl (w_p (zAp (v := .int _ _) rfl rfl rfl) rfl (w_p (zAp (v := .int _ _) rfl rfl rfl) rfl (w_p (zAp (v := .int _ _) rfl rfl rfl) rfl (zBe rfl rfl (zBe rfl rfl (zBe rfl rfl ?_))))))
  refine zAd (zAb (g8 _ _ (zAe (fun gf g9 => (zAa (zAz rfl rfl (w_p (zB2 rfl rfl rfl rfl) rfl (zAd (zAb (g9 _ _ (zAu rfl rfl (fun g4 => ?_) (fun g4 => ?_))))))))))))
  ·
   try simp only [zS] at g4
   refine zAe (fun gg ga => (zAa (zAz rfl rfl (zA5 rfl rfl (zBe rfl rfl (zAd (zAb (ga _ _ (zAy (zAg (zA1 (l := [.tmp 2, .tmp 3]) (vs := [_,_]) rfl ⟨⟨rfl, show _ = (.slice _ _ _ : Value) from rfl⟩, ⟨rfl, (rfl : _ = Value.int _ _)⟩, trivial⟩ ?_)))))))))))
   first
     | (have hq : wrongP l = ([], (check l).2.2) := by unfold wrongP; rw [if_pos (by assumption)]
        exact ⟨[], none, 0, by rw [hq]; rfl, by rw [hq]; exact Sl.nil _ _, g0.tail⟩)
     | (have hq : wrongP l = ((fewest (fun b => !(Ha.ways l b).isEmpty) l.counts.length).1,0) := by unfold wrongP; rw [if_neg (by simp; assumption)]
        exact ⟨B, aL, cL, by rw [hq]; rfl, by rw [hq]; exact hslB, g0⟩)
  try simp only [zS] at g4
  refine zAs (zAb (g7 _ _ (zAe (fun gh gb => ?_))))
  have hok := check_ok (by assumption)
  have hlc := hok.lc
  refine zAa (w_p (zAf (o := 2) (i := 2) underlying26 rfl sizeOf24 rfl rfl rfl) rfl (w_p (zAj isAgg24 g0 rfl rfl (zAk (i := 0) (vs := [_]) rfl rfl)) rfl (w_p (zA8 underlying24 rfl rfl) rfl (w_p (zCc (fv := []) (cv := [_]) rfl rfl rfl rfl) rfl ?_))))
  refine zAr zAc call58 rfl rfl rfl rfl (c58 l.counts.length (by omega) (.func (.func 62) #[] #[.pointer (some ⟨b3,0, none⟩)]) (fun b => !(Ha.ways l b).isEmpty) (fun b X w hb hs => zDd call62 (c62 l p hm.cons.app (by assumption) b (by have := shl_lt64 (n := l.counts.length) (by omega); omega) _ (Ats.app (zAk (i := 0) (vs := l.cells p) rfl rfl)) hs)) g0) ?_
  rintro _ gi ⟨B, aL, cL, rfl, hslB, g3⟩
  replace g3 := (show St _ _ (B ++ (_ :: F)) from g3)
  refine w_p (zAi (v := .tuple _) rfl rfl) rfl (w_p (zAp (v := .slice _ _ _) rfl rfl rfl) rfl (w_p (zAp (v := .bool _) rfl rfl rfl) rfl (w_p (zAo (v := .slice _ _ _) rfl rfl) rfl (w_p (zAo (v := .bool _) rfl rfl) rfl ?_))))
  refine zAd (zAb (gb _ _ (zAe (fun gj gc => (zAa (w_p (zAi (v := .slice _ _ _) rfl rfl) rfl (w_p (zAo (v := .slice _ _ _) rfl rfl) rfl (zA5 rfl rfl (zAd (zAb (gc _ _ (zAy (zA1 (l := [.tmp 2, .tmp 3]) (vs := [_,_]) rfl ⟨⟨rfl, show _ = (.slice _ _ _ : Value) from rfl⟩, ⟨rfl, (rfl : _ = Value.int _ _)⟩, trivial⟩ ?_)))))))))))))
  first
    | (have hq : wrongP l = ([], (check l).2.2) := by unfold wrongP; rw [if_pos (by assumption)]
       exact ⟨[], none, 0, by rw [hq]; rfl, by rw [hq]; exact Sl.nil _ _, g3.drop.tail⟩)
    | (have hq : wrongP l = ((fewest (fun b => !(Ha.ways l b).isEmpty) l.counts.length).1,0) := by unfold wrongP; rw [if_neg (by simp; assumption)]
       exact ⟨B, aL, cL, by rw [hq]; rfl, by rw [hq]; exact hslB, (zEg g3)⟩)

end Go.Proofs.Hn
set_option maxRecDepth 20000
namespace Go.Proofs.Hn
open Go.Proofs.Tryz
open Go.Rt Go.Rt.Ha
attribute [local irreducible] WL WC Con Yd At Ats Sl Agree DW

theorem zKk {ws : List (List Int)} {k : Nat} (h : leftW k ws < ws.length) (h2 : (Ha.nextTo ws k).1 < 0 ∨ leftW k ws < (Ha.nextTo ws k).2) : Ha.nextTo ws (k + 1) = ((k : Int), leftW k ws) := by simp only [Ha.nextTo]; rw [if_pos ⟨h, h2⟩]
theorem next_no {ws : List (List Int)} {k : Nat} (h : ¬ leftW k ws < ws.length ∨ (¬ (Ha.nextTo ws k).1 < 0 ∧ ¬ leftW k ws < (Ha.nextTo ws k).2)) : Ha.nextTo ws (k + 1) = Ha.nextTo ws k := by simp only [Ha.nextTo]; rw [if_neg (by rintro ⟨h1, h2⟩; omega)]
theorem left_max (b : Nat) (ws : List (List Int)) : maxTo (oftL b ws) ((oftL b ws).length - 1) = leftW b ws := by
  rw [zFu]
  have key : ∀ n, n < 13 → maxTo (oftL b ws) n = mostTo b ws (n + 1) := by
    intro n
    induction n with
    | zero => intro _; simp only [maxTo, mostTo]; rw [oft_get (by omega)]; have := (often_in b ((0 : Nat) : Int) ws).1; omega
    | succ n ih => intro h; simp only [maxTo]; rw [ih (by omega), oft_get (by omega)]; rfl
  exact key 12 (by omega)
theorem left_in (b : Nat) (ws : List (List Int)) : 0 ≤ leftW b ws ∧ leftW b ws ≤ ws.length := by
  have key : ∀ n, 0 ≤ mostTo b ws n ∧ mostTo b ws n ≤ ws.length := by
    intro n
    induction n with
    | zero => simp [mostTo]
    | succ n ih => have := often_in b (n : Int) ws; simp only [mostTo]; omega
  exact key 13
theorem oft_cells {b8 b7 : Nat} {x y : Int} {l m : List Int} (h : x = y) (h2 : l = m) : [(b8, blk 3 [.int .i64 x]), (b7, blk 128 (iv l))] = ([(b8, blk 3 [.int .i64 y]), (b7, blk 128 (iv m))] : List (Nat × Obj)) := by subst h h2; rfl
theorem zEy {w0 w : World} {bd : Nat} {bs : List Nat} {R : List (Nat × Obj)} {a b c d : Nat × Obj} (h : St w0 w ((bd, .deferred (some [])) :: a :: b :: c :: d :: (dfs bs ++ R))) : St w0 w (dfs (bd :: bs) ++ R) := zIm (zIm (zIm (zIm h)))
theorem c28 {w0 w : World} {F : List (Nat × Obj)} (l : Lot) (p : At3) (hm : LIn w0 F l p)  (hs : St w0 w F) :
  Con Tryz.prog 28 [.agg (l.cells p).toArray] w fun v w' => v = .tuple #[.int .i64 (nextP l).1, .int .i64 (nextP l).2.1, .int .i64 (nextP l).2.2] ∧ St w0 w' F := by
  refine zFb (n := 58) func28 rfl rfl (zNl rfl) ?_
  have hlb0 := hm.lb
  refine zAe (fun K2 gm => (zAa (zCa (v := .agg #[.slice _ _ _, .slice _ _ _, .slice _ _ _]) (cs := [_,_,_]) zAc rfl rfl rfl hs (fun b3 w4 gf => ?_))))
  refine zA5 rfl rfl (zA5 rfl rfl (zA5 rfl rfl (zAd (zAb (gm _ _ (zAe (fun K7 gg => (zAa (w_p (zA4 (vs := [_,_,_]) isAgg26 sizeOf26 gf rfl rfl (zAk (i := 0) (vs := [_,_,_]) rfl rfl)) rfl ?_)))))))))
  refine zAr zAc call41 rfl rfl rfl rfl (c41 l p hm.cons (.func (.func 55) #[] #[]) 0 (fun X w hs => zDd call55 (c55 hs)) gf) ?_
  rintro _ w9 (⟨hee, rfl, g3⟩ | ⟨hee, lb, mm, M, rfl, hM, g3⟩)
  ·
   refine w_p (zAi (v := .tuple _) rfl rfl) rfl (w_p (zAp (v := .pointer _) rfl rfl rfl) rfl (w_p (zAp (v := .int _ _) rfl rfl rfl) rfl (w_p (zAo (v := .pointer _) rfl rfl) rfl (zBe rfl rfl (zAd (zAb (gg _ _ (zAe (fun gZ hD => (zAe (fun hG gn => (zAa (zAz rfl rfl ?_)))))))))))))
   refine w_p (zB2 rfl rfl rfl rfl) rfl (zAd (zAb (gn _ _ (zAu rfl rfl (fun g5 => ?_) (fun g5 => ?_)))))
   ·
    try simp only [zS] at g5
    refine zAe (fun hH gq => (zAa (zAz rfl rfl (zA5 rfl rfl (zA5 rfl rfl (zBe rfl rfl (zAd (zAb (gq _ _ (zAy (zAg (zJa (l := [.tmp 2, .tmp 3, .tmp 4]) (vs := [_,_,_]) rfl ⟨⟨rfl, (rfl : _ = Value.int _ _)⟩, ⟨rfl, (rfl : _ = Value.int _ _)⟩, ⟨rfl, (rfl : _ = Value.int _ _)⟩, trivial⟩ ?_))))))))))))
    exact ⟨by unfold nextP; rw [if_pos hee]; rfl, g3.tail⟩
   exfalso
   try simp only [zS] at g5
   first | exact hee g5 | exact g5 hee
  replace g3 := (show St _ _ (M ++ (_ :: _ :: F)) from g3)
  have hk := zGx g3 hm.cons (zB4 hee).1
  have hew := zB4 hee
  have hbt := hk.bt
  have hlg := hk.ok.lg
  have hlb := hk.ok.lb
  have hlc := hk.ok.lc
  refine w_p (zAi (v := .tuple _) rfl rfl) rfl (w_p (zAp (v := .pointer _) rfl rfl rfl) rfl (w_p (zAp (v := .int _ _) rfl rfl rfl) rfl (w_p (zAo (v := .pointer _) rfl rfl) rfl (zBe rfl rfl (zAd (zAb (gg _ _ (zAe (fun hO gr => (zAe (fun hX gt => (zAa (zAz rfl rfl ?_)))))))))))))
  refine w_p (zB2 rfl rfl rfl rfl) rfl (zAd (zAb (gt _ _ (zBx rfl rfl ?_))))
  refine zAs (zAb (gr _ _ (zAe (fun hY gu => (zAa (zA5 rfl rfl (zAd (zAb (gu _ _ (zAe (fun j0 gv => (zAe (fun j1 gw => ?_)))))))))))))
  have hx1 : Ats w0 ((lb, blk 142 [.slice p.ag l.grades.length p.cg, .slice p.ab l.bunches.length p.cb, .slice p.ac l.counts.length p.cc, .int .i64 ((0 : Nat) : Int), .map (some mm)]) :: (b3, blk 26 (l.cells p)) :: F) b3 0 (l.cells p) := zAk (i := 1) rfl rfl
  have hwl := ways_len hk.ok 0
  refine zAa (w_p (zAf (o := 1) (i := 1) underlying26 rfl sizeOf23 rfl rfl rfl) rfl (w_p (zAj isAgg23 g3.drop rfl rfl (show Ats _ _ _ _ [_] from Ats.part hx1 1 1)) rfl (w_p (zA8 underlying23 rfl rfl) rfl (w_p (zAi (v := _) rfl rfl) rfl ?_))))
  refine zAd (zAb (gw _ _ (zAw ?_)))
  refine w_loopD [2,3,6,7,8,10,22,23,24,25,26,37,38,39,40,41,42,43,44,45,46,47,48,49,50,51,52,53] [2,3,22] (fun k vs bs w => ∃ (q : Nat), vs = [.int .i64 (Ha.nextTo (Ha.ways l 0) q).1, .int .i64 (Ha.nextTo (Ha.ways l 0) q).2, .int .i64 q] ∧ q ≤ l.bunches.length ∧ k = l.bunches.length - q ∧ St w0 w (dfs bs ++ (M ++ ((lb, blk 142 [.slice p.ag l.grades.length p.cg, .slice p.ab l.bunches.length p.cb, .slice p.ac l.counts.length p.cc, .int .i64 ((0 : Nat) : Int), .map (some mm)]) :: (b3, blk 26 (l.cells p)) :: F)))) (l.bunches.length) [] ?_ ?_
  ·
   exact ⟨0, rfl, by omega, by omega, g3⟩
  intro k vs μ bs j2 hI j3 g6
  obtain ⟨q, rfl, hqa, rfl, hs⟩ := hI
  refine zAe (fun j4 gx => (zAa (w_p (zBw rfl rfl rfl rfl) rfl (zAd (zAb (gx _ _ (zAe (fun j5 gy => (zAu rfl rfl (fun g8 => ?_) (fun g8 => ?_))))))))))
  ·
   try simp only [zS] at g8
   refine zAs (zAb (gy _ _ (zAe (fun j6 g7 => (zAw ?_)))))
   refine zAe (fun j7 gz => ?_)
   have hq2 : q < l.bunches.length := by omega
   have hli := left_in q (Ha.ways l 0)
   refine zAa (zAz rfl rfl (zBf (cs := [_]) zAc zeroValue3 rfl hs (fun gh j8 gA => ?_)))
   refine zA6 (i := 0) (v := .int _ _) (vs := [_]) zAc sizeOf3 rfl rfl rfl rfl rfl (by simp [Value.oneCell']) gA rfl (zNl rfl) (fun j9 gB => ?_)
   refine zAd (zAb (gz _ _ (zAe (fun ja gC => (zAa (zBf (cs := iv [0,0,0,0,0,0,0,0,0,0,0,0,0]) zAc zeroValue128 rfl gB (fun gE jb gF => ?_)))))))
   refine zAd (zAb (gC _ _ (zAe (fun jc gG => (zAa (zBf (cs := [_]) zAc zeroValue3 rfl gF (fun gH jd gI => ?_)))))))
   refine zA6 (i := 0) (v := .int _ _) (vs := [_]) zAc sizeOf3 rfl rfl rfl rfl rfl (by simp [Value.oneCell']) gI rfl (zNl rfl) (fun je gJ => ?_)
   refine zAd (zAb (gG _ _ (zAe (fun jf gK => (zAe (fun jg gL => (zAa (w_p (zAi (v := .pointer _) rfl rfl) rfl (zAr zAc call43 rfl rfl rfl rfl (c43 _ gJ) ?_)))))))))
   rintro _ jh ⟨bp, rfl, gM⟩
   refine zAd (zAb (gL _ _ (zAw ?_)))
   refine zHp ([_,_]) (fun i Bx => Bx = [(gH, blk 3 [.int .i64 (i : Int)]), (gE, blk 128 (iv (oftL q ((Ha.ways l 0).take i))))]) (fun _ _ => False) rfl rfl rfl call75 (zFg l p 0 lb mm hk.app.app.cons.cons bp (zAk (i := 0) (vs := [_]) rfl rfl)) gM (zBc [_] [_,_] _) rfl ?_ ?_ ?_
   ·
    intro lp i hi Bx Xr Xr2 ji hJ hs K gN
    subst hJ
    have hi2 : i < (Ha.ways l 0).length := by simpa using hi
    rw [List.getElem_map, List.getElem_map]
    have hpl := zG9 hk.ok (List.mem_map.2 ⟨_, List.getElem_mem hi2, rfl⟩)
    have hat := zHr (Ha.ways l 0)[i] q
    have hwi := way_in hk.ok (List.getElem_mem hi2) q
    obtain ⟨h, hh⟩ : ∃ h, h = pad6 (Ha.ways l 0)[i] := ⟨_, rfl⟩
    rw [← hh] at hpl hat ⊢
    rw [← hat] at hwi
    have hh6 := hpl.1
    have hol := zFu q ((Ha.ways l 0).take i)
    have hog := often_in q ((h.getD q 0).toNat : Int) ((Ha.ways l 0).take i)
    have hol2 : ((Ha.ways l 0).take i).length ≤ 4096 := by rw [List.length_take]; omega
    rw [← oft_get (by omega)] at hog
    have hx6 : Ats w0 ((bp, blk 92 [.pointer (some ⟨lb, 0, none⟩)]) :: (gh, blk 3 [.int .i64 (q : Int)]) :: ((dfs bs) ++ (M ++ ((lb, blk 142 [.slice p.ag l.grades.length p.cg, .slice p.ab l.bunches.length p.cb, .slice p.ac l.counts.length p.cc, .int .i64 ((0 : Nat) : Int), .map (some mm)]) :: (b3, blk 26 (l.cells p)) :: F)))) gh 0 [.int .i64 (q : Int)] := zAk (i := 1) rfl rfl
    replace hs := (show St _ _ (_ :: _ :: (Xr ++ (_ :: _ :: (dfs bs ++ (M ++ (_ :: _ :: F)))))) from hs)
    refine zAa (zBf (cs := iv [0,0,0,0,0,0]) zAc zeroValue101 rfl hs (fun jj jk gP => ?_))
    refine zDf (i := 0) (l := _) zAc sizeOf101 (by first | omega | rfl | (simp only [hh6, hol, zFu, zL] <;> omega)) rfl rfl rfl rfl rfl gP rfl (by first | omega | rfl | (simp only [hh6, hol, zFu, zL] <;> omega)) (fun jl gQ => ?_)
    refine zAd (zAb (gN _ _ (_ :: _ :: _ :: []) gQ (fun jm g4 => ?_)))
    replace g4 := (show St _ _ (_ :: _ :: _ :: Xr2 ++ (_ :: _ :: (dfs bs) ++ (M ++ (_ :: _ :: F)))) from g4)
    refine zAw ?_
    refine zAe (fun jn gR => (zAa (w_p (zAj isAgg3 g4.tail.tail.tail.drop rfl rfl hx6) rfl (w_p (zBr underlying101 sizeOf3 rfl rfl rfl rfl (i := q) (by first | rfl | omega) (by omega)) rfl ?_))))
    refine w_p (zAj isAgg3 g4 rfl rfl (zB7 (i := 0) (j := q) rfl (by first | omega | rfl | (simp only [hh6, hol, zFu, zL] <;> omega)))) rfl ?_
    refine w_p (zBr underlying128 sizeOf3 rfl rfl rfl rfl (i := (h.getD q 0).toNat) (by first | rfl | omega) (by omega)) rfl ?_
    refine w_p (zAj isAgg3 g4 rfl rfl (zB7 (i := 2) (j := (h.getD q 0).toNat) rfl (by first | omega | rfl | (simp only [hh6, hol, zFu, zL] <;> omega)))) rfl ?_
    refine w_p (zBg rfl rfl rfl rfl (by omega) (by omega)) rfl (w_p (zBr underlying128 sizeOf3 rfl rfl rfl rfl (i := (h.getD q 0).toNat) (by first | rfl | omega) (by omega)) rfl ?_)
    refine zC0 (i := 2) (j := (h.getD q 0).toNat) zAc sizeOf3 rfl rfl rfl rfl g4 rfl (by first | omega | rfl | (simp only [hh6, hol, zFu, zL] <;> omega)) (fun jo gi => ?_)
    refine zAd (zAb (gR _ _ (zAa (w_p (zAj isAgg3 gi rfl rfl (zAk (i := 1) (vs := [_]) rfl rfl)) rfl (w_p (zBg rfl rfl rfl rfl (by omega) (by omega)) rfl ?_)))))
    refine zA6 (i := 1) (v := .int _ _) (vs := [_]) zAc sizeOf3 rfl rfl rfl rfl rfl (by simp [Value.oneCell']) gi rfl (zNl rfl) (fun jp gS => ?_)
    refine zAd (zAl (zFy (_ :: _ :: []) gS.tail ?_))
    exact oft_cells (by omega) (oft_take hi2 (by rw [← hat]; omega) (by omega))
   ·
    intro bd Bx jq hJ hs
    subst hJ
    rw [List.length_map, List.length_map, List.take_length] at hs
    replace hs := (show St _ _ (_ :: _ :: _ :: _ :: _ :: (dfs bs ++ (M ++ (_ :: _ :: F)))) from hs)
    refine zAl (zAb (gK _ _ (zAe (fun jr gU => (zAa (w_p (y_sliceA underlying128 sizeOf3 rfl rfl) rfl (zAr zAc call60 rfl rfl rfl rfl ((by have h := c60 _ (oftL q (Ha.ways l 0)) 13 (by rw [zFu]; omega) (by rw [zFu]; omega) (zEa (i := 2) rfl) hs; rw [left_max, zFu] at h; exact h)) ?_)))))))
    rintro _ js ⟨rfl, g0⟩
    refine zBe rfl rfl (zAd (zAb (gU _ _ (zAe (fun jt g9 => (zAa (zAz rfl rfl (w_p (zAj isAgg3 g0 rfl rfl (zAk (i := 1) (vs := [_]) rfl rfl)) rfl ?_))))))))
    refine w_p (zBw rfl rfl rfl rfl) rfl (w_p (zAi (v := .bool _) rfl rfl) rfl (zBi (fun ga => ?_) (fun ga => ?_)))
    ·
     try simp only [zS] at ga
     refine w_y rfl rfl rfl (zA2 rfl rfl) rfl ?_
     refine w_y rfl rfl rfl (zBw rfl rfl rfl rfl) rfl ?_
     refine w_y rfl rfl rfl (zAi (v := .bool _) rfl rfl) rfl ?_
     refine zBi (fun gb => ?_) (fun gb => ?_)
     ·
      try simp only [zS] at gb
      refine zAh rfl rfl rfl ?_
      refine zAh rfl rfl rfl ?_
      refine zAh rfl rfl rfl ?_
      refine w_y rfl rfl rfl (zAx (v := _) rfl rfl rfl rfl) rfl ?_
      refine w_p (zAx (v := .bool _) rfl rfl rfl rfl) rfl (zAd (zAb (g9 _ _ (zB1 rfl rfl ?_))))
      refine zAa (w_p (zAj isAgg3 g0 rfl rfl (zAk (i := 4) (vs := [_]) rfl rfl)) rfl (zAz rfl rfl (zBe rfl rfl (zBe rfl rfl (zAd (zAl (zAb (g7 _ _ (zAa (w_p (zBg rfl rfl rfl rfl (by omega) (by omega)) rfl ?_))))))))))
      refine zAz rfl rfl (zAd (zAb (g6 _ _ (NxD.intro (bd :: bs) (l.bunches.length - (q + 1)) (by omega) (by repeat (first | exact zC2 | refine zC1 rfl ?_ | refine zCp rfl ?_ _ | refine zCg rfl ?_)) ?_))))
      first
        | (have hn := zKk (ws := (Ha.ways l 0)) (k := q) (by omega) (by omega)
           exact ⟨q + 1, iv3 (by rw [hn]) (by rw [hn]) rfl, by omega, rfl, zEy g0⟩)
        | (have hn := next_no (ws := (Ha.ways l 0)) (k := q) (by omega)
           exact ⟨q + 1, iv3 (by rw [hn]) (by rw [hn]) rfl, by omega, rfl, zEy g0⟩)
     try simp only [zS] at gb
     refine w_y rfl rfl rfl (zA2 rfl rfl) rfl ?_
     refine w_y rfl rfl rfl (zA2 rfl rfl) rfl ?_
     refine w_y rfl rfl rfl (zBw rfl rfl rfl rfl) rfl ?_
     refine w_y rfl rfl rfl (zA9 (v := .bool _) rfl rfl rfl rfl) rfl ?_
     refine w_p (zAx (v := .bool _) rfl rfl rfl rfl) rfl (zAd (zAb (g9 _ _ (zAu rfl rfl (fun gc => ?_) (fun gc => ?_)))))
     ·
      try simp only [zS] at gc
      refine zAa (w_p (zAj isAgg3 g0 rfl rfl (zAk (i := 4) (vs := [_]) rfl rfl)) rfl (zAz rfl rfl (zBe rfl rfl (zBe rfl rfl (zAd (zAl (zAb (g7 _ _ (zAa (w_p (zBg rfl rfl rfl rfl (by omega) (by omega)) rfl ?_))))))))))
      refine zAz rfl rfl (zAd (zAb (g6 _ _ (NxD.intro (bd :: bs) (l.bunches.length - (q + 1)) (by omega) (by repeat (first | exact zC2 | refine zC1 rfl ?_ | refine zCp rfl ?_ _ | refine zCg rfl ?_)) ?_))))
      first
        | (have hn := zKk (ws := (Ha.ways l 0)) (k := q) (by omega) (by omega)
           exact ⟨q + 1, iv3 (by rw [hn]) (by rw [hn]) rfl, by omega, rfl, zEy g0⟩)
        | (have hn := next_no (ws := (Ha.ways l 0)) (k := q) (by omega)
           exact ⟨q + 1, iv3 (by rw [hn]) (by rw [hn]) rfl, by omega, rfl, zEy g0⟩)
     try simp only [zS] at gc
     refine zAs (zAl (zAb (g7 _ _ (zAa (w_p (zBg rfl rfl rfl rfl (by omega) (by omega)) rfl (zAz rfl rfl (zAd (zAb (g6 _ _ (NxD.intro (bd :: bs) (l.bunches.length - (q + 1)) (by omega) (by repeat (first | exact zC2 | refine zC1 rfl ?_ | refine zCp rfl ?_ _ | refine zCg rfl ?_)) ?_))))))))))
     first
       | (have hn := zKk (ws := (Ha.ways l 0)) (k := q) (by omega) (by omega)
          exact ⟨q + 1, iv3 (by rw [hn]) (by rw [hn]) rfl, by omega, rfl, zEy g0⟩)
       | (have hn := next_no (ws := (Ha.ways l 0)) (k := q) (by omega)
          exact ⟨q + 1, iv3 (by rw [hn]) (by rw [hn]) rfl, by omega, rfl, zEy g0⟩)
    try simp only [zS] at ga
    refine zAh rfl rfl rfl ?_
    refine zAh rfl rfl rfl ?_
    refine zAh rfl rfl rfl ?_
    refine zBa rfl rfl rfl ?_
    refine zBa rfl rfl rfl ?_
    refine zBa rfl rfl rfl ?_
    refine zAh rfl rfl rfl ?_
    refine w_p (zA9 (v := _) rfl rfl rfl rfl) rfl (zAd (zAb (g9 _ _ (zBx rfl rfl ?_))))
    refine zAs (zAl (zAb (g7 _ _ (zAa (w_p (zBg rfl rfl rfl rfl (by omega) (by omega)) rfl (zAz rfl rfl (zAd (zAb (g6 _ _ (NxD.intro (bd :: bs) (l.bunches.length - (q + 1)) (by omega) (by repeat (first | exact zC2 | refine zC1 rfl ?_ | refine zCp rfl ?_ _ | refine zCg rfl ?_)) ?_))))))))))
    first
      | (have hn := zKk (ws := (Ha.ways l 0)) (k := q) (by omega) (by omega)
         exact ⟨q + 1, iv3 (by rw [hn]) (by rw [hn]) rfl, by omega, rfl, zEy g0⟩)
      | (have hn := next_no (ws := (Ha.ways l 0)) (k := q) (by omega)
         exact ⟨q + 1, iv3 (by rw [hn]) (by rw [hn]) rfl, by omega, rfl, zEy g0⟩)
   intro _ _ _ _ hJ
   exact hJ.elim
  try simp only [zS] at g8
  refine zBl (zAm (zAm (zA0 (zAb (gv _ _ (zAe (fun ju gV => (zAe (fun jv gW => (zAa (zAz rfl rfl (w_p (zBw rfl rfl rfl rfl) rfl ?_))))))))))))
  refine zAd (zAb (gW _ _ (zAu rfl rfl (fun gd => ?_) (fun gd => ?_))))
  ·
   try simp only [zS] at gd
   refine zAe (fun jw gX => (zAa (zA5 rfl rfl (zA5 rfl rfl (zA5 rfl rfl (zAd (zAb (gX _ _ (zAy (zAg (q_retMM (l := [.tmp 2, .tmp 3, .tmp 4]) (vs := [_,_,_]) hs rfl (fun jx gj => ⟨⟨⟨rfl, (rfl : _ = Value.int _ _)⟩, ⟨rfl, (rfl : _ = Value.int _ _)⟩, ⟨rfl, (rfl : _ = Value.int _ _)⟩, trivial⟩, ?_⟩))))))))))))
   have hqn : q = l.bunches.length := by omega
   subst hqn
   first
     | exact ⟨by unfold nextP; rw [if_neg (by simp [hee]), if_pos (by assumption)]; rfl, gj.drop.tail.tail⟩
     | exact ⟨by unfold nextP; rw [if_neg (by simp [hee]), if_neg (by omega)]; rfl, gj.drop.tail.tail⟩
  try simp only [zS] at gd
  refine zAs (zAb (gV _ _ (zAe (fun jy gY => (zAa (zAz rfl rfl (zAz rfl rfl (zBe rfl rfl (zBe rfl rfl (zA5 rfl rfl (zAd (zAb (gY _ _ (zAy (q_retMM (l := [.tmp 2, .tmp 3, .tmp 4]) (vs := [_,_,_]) hs rfl (fun jz gk => ⟨⟨⟨rfl, (rfl : _ = Value.int _ _)⟩, ⟨rfl, (rfl : _ = Value.int _ _)⟩, ⟨rfl, (rfl : _ = Value.int _ _)⟩, trivial⟩, ?_⟩))))))))))))))))
  have hqn : q = l.bunches.length := by omega
  subst hqn
  first
    | exact ⟨by unfold nextP; rw [if_neg (by simp [hee]), if_pos (by assumption)]; rfl, gk.drop.tail.tail⟩
    | exact ⟨by unfold nextP; rw [if_neg (by simp [hee]), if_neg (by omega)]; rfl, gk.drop.tail.tail⟩

end Go.Proofs.Hn
/- Plain words of the hand layer: the document's example. No conditions. -/
namespace Go.Rt.Ha
def nNine : ByteArray := ⟨#[110,105,110,101]⟩
def nEight : ByteArray := ⟨#[101,105,103,104,116]⟩
def nSeven : ByteArray := ⟨#[115,101,118,101,110]⟩
def exL (m : List Count) : Lot := ⟨[⟨nNine, 9,1⟩, ⟨nEight, 8,3⟩, ⟨nSeven, 7,3⟩], [⟨9,10,0,0⟩, ⟨8,9,1,2⟩, ⟨7,8,0,4⟩, ⟨6,7,2,2⟩], ⟨3,18⟩ :: m⟩
theorem ex_hands1 : handsP (exL []) 0 = ((9,10), 0) := by decide +kernel
theorem ex_grade1 : gradeP (exL []) 2 = ([-1,1,2], 0) := by decide +kernel
theorem ex_total1 : totalP (exL []) 0 = ((9,18), 0) := by decide +kernel
theorem ex_ref1 : refusedP (exL [⟨12,13⟩]) = ([3], [2,3], 0) := by decide +kernel
theorem ex_pick1 : pickP (exL []) 1 18 = ([0,1], 0) := by decide +kernel
theorem ex_pick2 : pickP (exL []) 1 19 = ([], 9) := by decide +kernel
theorem ex_next1 : nextP (exL []) = (0,4,0) := by decide +kernel
theorem ex_wrong1 : wrongP (exL [⟨1,8⟩]) = ([1], 0) := by decide +kernel
theorem ex_hands2 : handsP (exL [⟨1,8⟩]) 0 = ((0,0), 8) := by decide +kernel
end Go.Rt.Ha
/- The walking engine, part 16: the check of one order of a region, over numbers as sets of bits. No conditions. -/
namespace Go.Rt
open Go.RowKit
variable {r : Option Nat} {P : Program} {ops : Array Oper} {Q : Exit → Act → World → Prop} {rest : List Oper} {n : Nat} {ρ : Nat → Value} {ds : List Deferred} {w w0 : World} {L : List (Nat × Obj)}
def tb (m i : Nat) : Bool := Nat.beq (Nat.land (Nat.shiftRight m i) 1) 1
theorem tb_eq (m i : Nat) : tb m i = m.testBit i := by
  have h : Nat.land (Nat.shiftRight m i) 1 = (m >>> i) % 2 := by
    show (m >>> i) &&& 1 = _
    exact Nat.and_one_is_mod _
  have h2 : m.testBit i = decide ((m >>> i) % 2 = 1) := by rw [Nat.testBit_eq_decide_div_mod_eq, Nat.shiftRight_eq_div_pow]
  unfold tb
  rw [h, h2, Bool.eq_iff_iff, Nat.beq_eq, decide_eq_true_eq]
def orB (m i : Nat) : Nat := Nat.lor m (Nat.shiftLeft 1 i)
theorem tb_orB (m i j : Nat) : tb (orB m i) j = (tb m j || decide (i = j)) := by
  rw [tb_eq, tb_eq]
  show (m ||| (1 <<< i)).testBit j = _
  rw [Nat.testBit_or, Nat.shiftLeft_eq, Nat.one_mul, Nat.testBit_two_pow]
def maskOf : List Nat → Nat
  | [] => 0
  | x :: l => orB (maskOf l) x
theorem zI7 (j : Nat) : ∀ l : List Nat, tb (maskOf l) j = l.contains j
  | [] => by simp [maskOf, tb_eq]
  | x :: l => by
    simp only [maskOf, tb_orB, zI7 j l, List.contains_cons]
    rw [Bool.or_comm]
    congr 1
    rw [Bool.eq_iff_iff]; simp only [decide_eq_true_eq, beq_iff_eq, Nat.beq_eq]; exact eq_comm
def subN (a m : Nat) : Bool := Nat.beq (Nat.land a m) a
theorem sub_iff (a m : Nat) : subN a m = true ↔ ∀ j, tb a j = true → tb m j = true := by
  unfold subN
  rw [Nat.beq_eq]
  constructor
  · intro h j hj
    have h1 : (a &&& m).testBit j = a.testBit j := by rw [show a &&& m = a from h]
    rw [Nat.testBit_and] at h1
    rw [tb_eq] at hj ⊢
    rw [hj] at h1; simpa using h1
  · intro h
    show a &&& m = a
    apply Nat.eq_of_testBit_eq
    intro j
    rw [Nat.testBit_and]
    have := h j
    rw [tb_eq, tb_eq] at this
    cases ha : a.testBit j with
    | false => rfl
    | true => rw [this ha]; rfl
structure OpS where
  nd : Nat
  dst : Option Nat
  lk : Nat
def opS (ops : Array Oper) (o : Oper) : OpS := ⟨maskOf ((o.after.toList.filter (Region.binds .any)).map (·.on)), o.dst, maskOf (o.looksAt ops)⟩
def sumS (ops : Array Oper) : List OpS := ops.toList.map (opS ops)
def readyN : List OpS → Nat → Nat → List Nat
  | [], _, _ => []
  | x :: s, i, m => bif (!tb m i) && subN x.nd m then i :: readyN s (i + 1) m else readyN s (i + 1) m
def apartN (x y : OpS) : Bool :=
  (match x.dst with | some d => !tb y.lk d && y.dst != some d | none => true) && (match y.dst with | some d => !tb x.lk d | none => true)
def freeN (xi : OpS) (i m : Nat) : List OpS → Nat → Bool
  | [], _ => true
  | y :: s, j => (Nat.beq j i || tb m j || tb y.nd i || apartN xi y) && freeN xi i m s (j + 1)
def closeN (s : List OpS) (i : Nat) : Nat → Nat → Nat
  | 0, m => m
  | k + 1, m => closeN s i k ((readyN s 0 m).foldl (fun m j => bif Nat.beq j i then m else orB m j) m)
def memN (i : Nat) : List Nat → Bool
  | [] => false
  | j :: l => Nat.beq j i || memN i l
def onlyN (i : Nat) : List Nat → Bool
  | [j] => Nat.beq j i
  | _ => false
def drawN (s : List OpS) (n : Nat) (late : List Nat) : List (Nat × Nat) → Nat → Bool
  | [], m => match readyN s 0 m with | [] => true | _ => false
  | (i, t) :: rest, m =>
    (match t with
     | 0 => memN i (readyN s 0 m) && (match s[i]? with | some x => freeN x i m s 0 | none => false) && !memN i late
     | 1 => memN i (readyN s 0 m) && (match s[i]? with | some x => freeN x i m s 0 | none => false) && !memN i late &&
        (let c := closeN s i n m; ((readyN s 0 c).all fun j => Nat.beq j i) && !(late.any fun q => tb c q) && !tb c i && subN m c)
     | 2 => onlyN i (readyN s 0 m) && !memN i late
     | _ => onlyN i (readyN s 0 m) && memN i late) && drawN s n late rest (orB m i)
def drawOKN (ops : Array Oper) (late : List Nat) (ord : List (Nat × Nat)) : Bool :=
  Region.noSelect ops && noDefer ops && Nat.beq ord.length ops.size && drawN (sumS ops) ops.size late ord 0
def Rep (ops : Array Oper) (l : Array Bool) (m : Nat) : Prop := l.size = ops.size ∧ ∀ j, l.getD j false = tb m j
theorem zJg (i : Nat) : ∀ l : List Nat, memN i l = l.contains i
  | [] => rfl
  | j :: l => by
    simp only [memN, zJg i l, List.contains_cons]
    congr 1
    rw [Bool.eq_iff_iff]; simp only [decide_eq_true_eq, beq_iff_eq, Nat.beq_eq]; exact eq_comm
theorem zKj {i : Nat} {l : List Nat} (h : onlyN i l = true) : l = [i] := by
  match l with
  | [] => cases h
  | [j] => simp only [onlyN, Nat.beq_eq] at h; rw [h]
  | _ :: _ :: _ => cases h
theorem zIc {l : Array Bool} {m : Nat} (h : Rep ops l m) : Region.ready .any ops l = readyN (sumS ops) 0 m := by
  have key : ∀ (s : List Oper) (i : Nat), (∀ k (hk : k < s.length), ops[i + k]? = some s[k]) → (List.range' i s.length).filter (fun j => !l.getD j true && ((ops[j]?).map (·.after.all fun e => !Region.binds .any e || l.getD e.on false)).getD false) = readyN (s.map (opS ops)) i m := by
    intro s
    induction s with
    | nil => intro i _; rfl
    | cons x s ih =>
      intro i hk
      have hx : ops[i]? = some x := hk 0 (by simp)
      have hlt : i < ops.size := (Array.getElem?_eq_some_iff.1 hx).1
      have hih := ih (i + 1) (fun k hk2 => by have := hk (k + 1) (by simpa using hk2); rw [show i + 1 + k = i + (k + 1) by omega]; simpa using this)
      have hT : l.getD i true = tb m i := by
        rw [← h.2 i]
        have : i < l.size := by rw [h.1]; exact hlt
        simp [this]
      have hA : (x.after.all fun e => !Region.binds .any e || l.getD e.on false) = subN (opS ops x).nd m := by
        rw [Bool.eq_iff_iff, sub_iff, Array.all_eq_true_iff_forall_mem]
        unfold opS
        dsimp only
        constructor
        · intro hall j hj
          rw [zI7, List.contains_iff_mem] at hj
          obtain ⟨e, he, rfl⟩ := List.mem_map.1 hj
          obtain ⟨he1, he2⟩ := List.mem_filter.1 he
          have := hall e (by simpa using he1)
          rw [he2, h.2] at this
          simpa using this
        · intro hall e he
          rw [h.2]
          cases hb : Region.binds .any e with
          | false => rfl
          | true =>
            have := hall e.on (by rw [zI7, List.contains_iff_mem]; exact List.mem_map.2 ⟨e, List.mem_filter.2 ⟨by simpa using he, hb⟩, rfl⟩)
            simpa using this
      rw [List.length_cons, List.range'_succ, List.filter_cons, List.map_cons, readyN, ← hih]
      simp only [hx, hT, Option.map_some, Option.getD_some, hA]
      cases (!tb m i && subN (opS ops x).nd m) <;> rfl
  have := key ops.toList 0 (fun k hk => by rw [Nat.zero_add]; simp at hk ⊢)
  unfold Region.ready sumS
  rw [← this, List.range_eq_range', Array.length_toList]
theorem zId {i m : Nat} (h : memN i (readyN (sumS ops) 0 m) = true) : i < ops.size := by
  have key : ∀ (s : List OpS) (b : Nat), memN i (readyN s b m) = true → i < b + s.length := by
    intro s
    induction s with
    | nil => intro b h; simp [readyN, memN] at h
    | cons x s ih =>
      intro b h
      simp only [readyN] at h
      cases hc : (!tb m b && subN x.nd m) with
      | false => rw [hc] at h; have := ih (b + 1) h; simp only [List.length_cons]; omega
      | true =>
        rw [hc] at h
        simp only [cond_true, memN, Bool.or_eq_true, Nat.beq_eq] at h
        rcases h with h | h
        · simp only [List.length_cons]; omega
        · have := ih (b + 1) h; simp only [List.length_cons]; omega
  have := key _ _ h
  simpa [sumS] using this
theorem rep_set {l : Array Bool} {m i : Nat} (h : Rep ops l m) (hi : i < ops.size) : Rep ops (l.setIfInBounds i true) (orB m i) := by
  refine ⟨by simpa using h.1, fun j => ?_⟩
  rw [tb_orB, ← h.2 j]
  by_cases e : i = j
  · subst e
    have : i < l.size := by rw [h.1]; exact hi
    simp [this]
  · simp [e, Array.getElem?_setIfInBounds_ne e]
theorem apart_rep (x y : Oper) : apartN (opS ops x) (opS ops y) = x.apart ops y := by
  unfold apartN Oper.apart opS
  dsimp only
  congr 1
  · cases x.dst with
    | none => rfl
    | some d => dsimp only; rw [zI7]
  · cases y.dst with
    | none => rfl
    | some d => dsimp only; rw [zI7]
theorem free_rep {l : Array Bool} {m i : Nat} (h : Rep ops l m) (hf : (match (sumS ops)[i]? with | some x => freeN x i m (sumS ops) 0 | none => false) = true) : Region.free .any ops l i = true := by
  unfold Region.free
  have hsum : (sumS ops)[i]? = (ops[i]?).map (opS ops) := by simp [sumS]
  rw [hsum] at hf
  cases hoi : ops[i]? with
  | none => rw [hoi] at hf; cases hf
  | some oi =>
    rw [hoi] at hf
    dsimp only [Option.map_some] at hf ⊢
    rw [List.all_eq_true]
    intro j hj
    rw [List.mem_range] at hj
    have key : ∀ (s : List Oper) (b : Nat), freeN (opS ops oi) i m (s.map (opS ops)) b = true → ∀ k (hk : k < s.length), (Nat.beq (b + k) i || tb m (b + k) || tb (opS ops s[k]).nd i || apartN (opS ops oi) (opS ops s[k])) = true := by
      intro s
      induction s with
      | nil => intro b _ k hk; simp at hk
      | cons x s ih =>
        intro b hb k hk
        simp only [List.map_cons, freeN] at hb
        rw [Bool.and_eq_true] at hb
        match k with
        | 0 => simpa using hb.1
        | k + 1 =>
          have := ih (b + 1) hb.2 k (by simpa using hk)
          rw [show b + (k + 1) = b + 1 + k by omega]
          simpa using this
    have hk := key ops.toList 0 hf j (by simpa using hj)
    rw [Nat.zero_add] at hk
    have hoj : ops[j]? = some ops[j] := by simp [hj]
    rw [hoj]
    dsimp only
    have hT : l.getD j true = tb m j := by
      rw [← h.2 j]
      have : j < l.size := by rw [h.1]; exact hj
      simp [this]
    rw [hT, ← apart_rep]
    simp only [Bool.or_eq_true, Nat.beq_eq] at hk ⊢
    rcases hk with ((hk | hk) | hk) | hk
    · left; left; simpa using hk
    · left; right; exact hk
    · right; left
      rw [Array.any_eq_true']
      unfold opS at hk
      dsimp only at hk
      rw [zI7, List.contains_iff_mem] at hk
      obtain ⟨e, he, hei⟩ := List.mem_map.1 hk
      obtain ⟨he1, he2⟩ := List.mem_filter.1 he
      exact ⟨e, by simpa using he1, by simp [he2, hei]⟩
    · right; right
      simpa using hk
theorem close_rep (i : Nat) : ∀ (k : Nat) {l : Array Bool} {m : Nat}, Rep ops l m → Rep ops (closeB ops i k l) (closeN (sumS ops) i k m)
  | 0, _,_, h => h
  | k + 1, l, m, h => by
    unfold closeB closeN
    refine close_rep i k ?_
    rw [zIc h]
    have key : ∀ (xs : List Nat) (l : Array Bool) (m : Nat), (∀ x ∈ xs, x < ops.size) → Rep ops l m → Rep ops (xs.foldl (fun l j => bif Nat.beq j i then l else l.setIfInBounds j true) l) (xs.foldl (fun m j => bif Nat.beq j i then m else orB m j) m) := by
      intro xs
      induction xs with
      | nil => intro l m _ h; exact h
      | cons x xs ih =>
        intro l m hx h
        rw [List.foldl_cons, List.foldl_cons]
        refine ih _ _ (fun y hy => hx y (.tail _ hy)) ?_
        cases Nat.beq x i
        · exact rep_set h (hx x (.head _))
        · exact h
    exact key _ _ _ (fun x hx => zId (by rw [zJg, List.contains_iff_mem]; exact hx)) h
theorem draw_rep {late : List Nat} : ∀ (ord : List (Nat × Nat)) {l : Array Bool} {m : Nat}, Rep ops l m → drawN (sumS ops) ops.size late ord m = true → drawB ops late ord l = true
  | [], l, m, h, hd => by
    simp only [drawN] at hd
    simp only [drawB, zIc h]
    cases hr : readyN (sumS ops) 0 m with
    | nil => rfl
    | cons _ _ => rw [hr] at hd; cases hd
  | (i, t) :: rest, l, m, h, hd => by
    simp only [drawN, Bool.and_eq_true] at hd
    obtain ⟨h1, h2⟩ := hd
    simp only [drawB, Bool.and_eq_true]
    have hlt : i < ops.size := by
      match t, h1 with
      | 0, h1 => simp only [Bool.and_eq_true] at h1; exact zId h1.1.1
      | 1, h1 => simp only [Bool.and_eq_true] at h1; exact zId h1.1.1.1
      | 2, h1 => simp only [Bool.and_eq_true] at h1; exact zId (m := m) (by rw [zKj h1.1]; simp [memN])
      | t + 3, h1 => simp only [Bool.and_eq_true] at h1; exact zId (m := m) (by rw [zKj h1.1]; simp [memN])
    refine ⟨?_, draw_rep rest (rep_set h hlt) h2⟩
    rw [zIc h]
    match t, h1 with
    | 0, h1 =>
      simp only [Bool.and_eq_true, zJg] at h1 ⊢
      exact ⟨⟨h1.1.1, free_rep h h1.1.2⟩, h1.2⟩
    | 1, h1 =>
      simp only [Bool.and_eq_true, zJg] at h1 ⊢
      obtain ⟨⟨⟨a1, a2⟩, a3⟩, ⟨⟨⟨a4, a5⟩, a6⟩, a7⟩⟩ := h1
      have hc := close_rep i ops.size h
      refine ⟨⟨⟨a1, free_rep h a2⟩, a3⟩, ⟨⟨⟨?_, ?_⟩, ?_⟩, ?_⟩⟩
      · rw [zIc hc]; exact a4
      · rw [← a5]
        unfold badB
        congr 2
        funext q; exact hc.2 q
      · rw [hc.2]; exact a6
      · rw [List.all_eq_true]
        intro j _
        have := (sub_iff _ _).1 a7 j
        rw [h.2, hc.2]
        cases ht : tb m j with
        | false => rfl
        | true => rw [this ht]; rfl
    | 2, h1 =>
      simp only [Bool.and_eq_true, zJg] at h1 ⊢
      exact ⟨by rw [zKj h1.1]; simp, h1.2⟩
    | t + 3, h1 =>
      simp only [Bool.and_eq_true, zJg] at h1 ⊢
      exact ⟨by rw [zKj h1.1]; simp, h1.2⟩
theorem zEn {late : List Nat} {ord : List (Nat × Nat)} (h : drawOKN ops late ord = true) : drawOK ops late ord = true := by
  unfold drawOKN at h
  unfold drawOK
  simp only [Bool.and_eq_true] at h ⊢
  exact ⟨h.1, draw_rep ord ⟨by simp, fun j => by
    have : tb 0 j = false := by rw [tb_eq]; exact Nat.zero_testBit j
    rw [this]
    by_cases hj : j < ops.size
    · simp [hj]
    · simp [hj]⟩ h.2⟩
end Go.Rt
