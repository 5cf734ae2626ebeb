/- Own texts of this claim, joined. No conditions. -/
import Derived.Test.YtjhhifdfgeccoaaGreatHTopTurneda
import Derived.Test.YtjhhifdfgeccoaaGreatHTopTurnedb
import Derived.Test.YtjhhifdfgeccoaaGreatHTopTurnedc
import Derived.Test.YtjhhifdfgeccoaaGreatHTopTurnedd
import Derived.Test.YtjhhifdfgeccoaaGreatHTopTurnede
import Derived.Test.YtjhhifdfgeccoaaGreatHTopTurnedf
import Derived.Test.YtjhhifdfgeccoaaGreatHTopTurnedg
set_option linter.unusedVariables false
set_option linter.unusedSimpArgs false
set_option maxRecDepth 20000
namespace Go.Proofs.Ur
open Go.Proofs.Tryz
open Go.Rt Go.Rt.Tu Go.Proofs.Ut
open Go.Rt.Ha (firstE zB3 zAp zBn failE felt spanL upto zBv listL bit Bunch)
attribute [local irreducible] WL WC Con Yd At Ats Sl Agree DW
theorem Try_RD_fb3 (x0 : Int) (x1 : Option Addr) (l1 c1 : Nat) (w : World) : (Instr.buildSlice 39 1 [(0, .agg #[.int .i64 x0, .slice x1 l1 c1])].toArray).run Tryz.prog w = .ok (.slice (some ⟨w.heap.size, 0, none⟩) 1 1) (w.alloc (Go.Rt.blk 44 [.int .i64 x0, .slice x1 l1 c1])) := by kernel_rfl
theorem some_mono {c : Cargo} {but k : Nat} : ∀ {n : Nat}, k ≤ n → someTo c but k = false → someTo c but n = false
  | 0, h, h2 => by have : k = 0 := (by omega); subst this; exact h2
  | n + 1, h, h2 => by
    by_cases e : k = n + 1
    · subst e; exact h2
    · rw [someTo, some_mono (n := n) (by omega) h2]; rfl
theorem some_next {c : Cargo} {k : Nat} {l : List (Int × List Int)} (hb : someTo c 0 k = true) (hl : l.length = (truths c 0 k).length) : decide (0 < (l.length : Int)) = someTo c 0 (k + 1) := by
  rw [someTo, hb, hl, Bool.true_and]
  cases truths c 0 k <;> simp <;> omega
theorem filt_yes {α : Type} {p : α → Bool} {l : List α} {i : Nat} (hi : i < l.length) (h : p l[i] = true) : (l.take (i + 1)).filter p = (l.take i).filter p ++ [l[i]] := by
  rw [List.take_succ_eq_append_getElem hi, List.filter_append]; simp [h]
theorem filt_no {α : Type} {p : α → Bool} {l : List α} {i : Nat} (hi : i < l.length) (h : p l[i] = false) : (l.take (i + 1)).filter p = (l.take i).filter p := by
  rw [List.take_succ_eq_append_getElem hi, List.filter_append]; simp [h]
theorem c40 {w0 w : World} {F : List (Nat × Obj)} (c : Cargo) (p : AtT) (hm : TIn w0 F c p) (hc : c.Ok) (hold : Int) (at_ : Option Addr) (ct : Nat) (t : List Int) (htl : t.length = c.lots.length) (hts : Sl w0 F at_ 1 (t.map fun x => [Value.int .i64 x])) (hs : St w0 w F) :
  Con Tryz.prog 40 [.agg (c.cells p).toArray, .int .i64 hold, .slice at_ c.lots.length ct, .slice none 0 0] w fun v w' => v = .bool (soR c hold t) ∧ St w0 w' F := by
  refine zAo (n := 54) func40 rfl rfl (zNl rfl) ?_
  obtain ⟨ae, ce, ah, ch, al, cl, an, cn⟩ := p
  have hln := hc.ln
  refine zAf (fun K2 ga => (zAb (zCj (v := .agg #[.slice _ _ _, .int _ _, .slice _ _ _, .slice _ _ _, .slice _ _ _]) (cs := [_,_,_,_,_]) zAa rfl rfl rfl hs (fun b3 w4 gc => ?_))))
  refine zBi rfl rfl (zAd (zAc (ga _ _ (zAf (fun K7 gd => (zAb (zBi rfl rfl (zAd (zAc (gd _ _ (zAf (fun K9 ge => (zAf (fun gn gf => (zAb (zBi rfl rfl ?_))))))))))))))))
  refine zAd (zAc (gf _ _ (zAq ?_)))
  refine zB6 [9,10,11,12,13,14,15,16,17,18,19,20,21,22,23,24,25,26,27,28,29,30,31,32,33,34,35,36,37,38,39,40,41,42,43,44,45,46,47,48,49,50,51,52] [9,10] (fun kk vs w => ∃ (k : Nat), vs = [.bool (soTo c hold t k), .int .i64 k] ∧ k ≤ c.seen.length ∧ kk = c.seen.length - k ∧ St w0 w ((b3, blk 27 (c.cells ⟨ae, ce, ah, ch, al, cl, an, cn⟩)) :: F)) (c.seen.length) ?_ ?_
  ·
   exact ⟨0, rfl, by omega, by omega, gc⟩
  intro k vs μ go hI gp g4
  obtain ⟨k, rfl, hka, rfl, hs⟩ := hI
  generalize hb : soTo c hold t k = b
  refine zAf (fun gq gg => (zAf (fun gt gh => (zAb (zA6 rfl rfl (w_p (zAe (o := 4) (i := 4) underlying27 rfl sizeOf25 rfl rfl rfl) rfl (w_p (zAg isAgg25 hs rfl rfl (aow 0 [_])) rfl ?_)))))))
  refine w_p (zBc underlying25 rfl rfl) rfl (w_p (zCp rfl rfl rfl rfl) rfl (zAd (zAc (gh _ _ (zAr rfl rfl (fun g5 => ?_) (fun g5 => ?_))))))
  ·
   try simp only [zS] at g5
   refine zAn (zAc (gg _ _ (zAf (fun gu g6 => (zAq ?_)))))
   refine zAf (fun gv gi => ?_)
   have hk2 : k < c.seen.length := by omega
   obtain ⟨bx, ox, rfl, hx⟩ := zI2 hm.n hk2
   have hse := hc.seen _ (List.getElem_mem hk2)
   have hj2 : c.seen[k].lot.toNat < c.lots.length := by omega
   have hjn : c.seen[k].lot = ((c.seen[k].lot.toNat : Nat) : Int) := by omega
   obtain ⟨by_, oy, rfl, hy⟩ := sl_lrows hm.l hj2
   have hla := zC5 hj2
   have hj3 : c.seen[k].lot.toNat < t.length := by omega
   obtain ⟨bz, oz, hbz, hz⟩ := zCx hts hj3
   subst hbz
   have hgd : t.getD c.seen[k].lot.toNat 0 = t[c.seen[k].lot.toNat] := by simp [List.getD, hj3]
   refine zAb (w_p (zAe (o := 4) (i := 4) underlying27 rfl sizeOf25 rfl rfl rfl) rfl (w_p (zAg isAgg25 hs rfl rfl (aow 0 [_])) rfl (zA6 rfl rfl (w_p (zA7 underlying25 sizeOf62 rfl rfl rfl rfl (i := _) rfl (by omega)) rfl ?_))))
   refine w_p (zA2 (vs := [_,_,_]) isAgg62 sizeOf62 hs.tail rfl rfl hx) rfl (zA1 (cs := [_,_,_]) zAa zeroValue62 rfl hs (fun gw gx gj => ?_))
   refine zBj 0 (.agg #[.int _ _, .int _ _, .bool _]) [_,_,_] sizeOf62 gj (fun gy g3 => ?_)
   refine zAd (zAc (gi _ _ (zAf (fun gz g9 => (zAb (w_p (zAe (o := 3) (i := 3) underlying27 rfl sizeOf24 rfl rfl rfl) rfl (w_p (zAg isAgg24 g3 rfl rfl (aow 1 [_])) rfl ?_)))))))
   refine w_p (zAe (o := 0) (i := 0) underlying62 rfl sizeOf3 rfl rfl rfl) rfl (w_p (zAg isAgg3 g3 rfl rfl (aow 0 [_])) rfl (w_p (zA7 underlying24 sizeOf38 rfl rfl rfl rfl (i := c.seen[k].lot.toNat) hjn hj2) rfl (w_p (zAe (o := 0) (i := 0) underlying38 rfl sizeOf3 rfl rfl rfl) rfl ?_)))
   refine w_p (zAg isAgg3 g3.tail.tail rfl rfl (show Ats _ _ _ _ [_] from Ats.part hy 0 1)) rfl (zA6 rfl rfl (w_p (zCa rfl rfl rfl rfl) rfl (w_p (zAt rfl rfl) rfl (zB5 (fun g7 => ?_) (fun g7 => ?_)))))
   ·
    try simp only [zS] at g7
    refine w_y rfl rfl rfl (zAx rfl rfl) rfl ?_
    refine w_y rfl rfl rfl (zAy rfl rfl) rfl ?_
    refine zA4 (zAh rfl rfl rfl) call41 rfl rfl rfl rfl ((c41 none 0 [] (by simp) (Sl.nil _ _) (k : Int) g3).mono (fun v w2 h => (show v = .bool false ∧ _ from h))) ?_
    rintro _ gA ⟨rfl, gk⟩
    refine w_y rfl rfl rfl (zDo rfl rfl) rfl ?_
    refine w_p (zA5 (v := .bool _) rfl rfl rfl rfl) rfl (zAd (zAc (g9 _ _ (zDb rfl rfl ?_))))
    refine zCq [] [(0,0),(1,0),(2,0),(3,0),(4,1),(5,0),(6,1),(7,0),(8,1),(9,0),(10,0),(11,1),(12,0),(13,0),(14,0)] zB4 (zBk (by kernel_rfl)) gk (fun gB g0 => ?_)
    refine d_w rfl (fun _ => zAt rfl rfl) rfl (d_w rfl (fun _ => zAt rfl rfl) rfl ?_)
    refine zC6 (fun g8 => ?_) (fun g8 => ?_)
    ·
     subst g8
     refine zBe rfl (zAh rfl rfl rfl) rfl (fun _ => (zAx rfl rfl)) ?_
     refine zBe rfl (zAh rfl rfl rfl) rfl (fun _ => (zAe (o := 0) (i := 0) underlying62 rfl sizeOf3 rfl rfl rfl)) ?_
     refine zAz rfl (zAh rfl rfl rfl) rfl g0 (fun _ hq => (zAg isAgg3 hq rfl rfl (aow 0 [_]))) ?_
     refine zBe rfl (zAh rfl rfl rfl) rfl (fun _ => (zA7 underlying22 sizeOf3 rfl rfl rfl rfl (i := c.seen[k].lot.toNat) hjn hj2)) ?_
     refine zAz rfl (zAh rfl rfl rfl) rfl g0 (fun _ hq => (zAg isAgg3 hq.tail.tail rfl rfl hz)) ?_
     refine zBe rfl (zAh rfl rfl rfl) rfl (fun _ => (zAe (o := 1) (i := 1) underlying62 rfl sizeOf3 rfl rfl rfl)) ?_
     refine zAz rfl (zAh rfl rfl rfl) rfl g0 (fun _ hq => (zAg isAgg3 hq rfl rfl (aow 0 [_]))) ?_
     refine zBe rfl (zAh rfl rfl rfl) rfl (fun _ => (zFc rfl rfl rfl rfl)) ?_
     refine zBe rfl (zAh rfl rfl rfl) rfl (fun _ => (zAe (o := 2) (i := 2) underlying62 rfl sizeOf4 rfl rfl rfl)) ?_
     refine zAz rfl (zAh rfl rfl rfl) rfl g0 (fun _ hq => (zAg isAgg4 hq rfl rfl (aow 0 [_]))) ?_
     refine zBe rfl (zAh rfl rfl rfl) rfl (fun _ => (y_eqB underlying4 rfl rfl rfl rfl)) ?_
     refine d_w rfl (fun _ => zA5 (v := .bool _) rfl rfl rfl rfl) rfl (d_w rfl (fun _ => zAs rfl rfl) rfl ?_)
     refine zBm ?_
     refine zAi (zAc (g6 _ _ (zAb (zA6 rfl rfl (w_p (zBo rfl rfl rfl rfl (by omega) (by omega)) rfl (zBw rfl rfl (zAd (zAc (g4 _ _ (nxI (c.seen.length - (k + 1)) (by omega) ?_))))))))))
     first
       | exact ⟨k + 1, bi2 (by rw [soTo_no hk2 hla (by assumption), hb]) rfl, by omega, rfl, g0.tail⟩
       | exact ⟨k + 1, bi2 (by rw [zE0 hk2 hla (by assumption), hb, hgd]; rfl) rfl, by omega, rfl, g0.tail⟩
       | exact ⟨k + 1, bi2 (by rw [zE0 hk2 hla (by assumption), hb, hgd]; rw [Bool.eq_iff_iff]; simp) rfl, by omega, rfl, g0.tail⟩
       | exact ⟨k + 1, bi2 (by rw [zE0 hk2 hla (by assumption), hb]; rfl) rfl, by omega, rfl, g0.tail⟩
    subst g8
    refine zBl rfl rfl rfl rfl ?_
    refine zBl rfl rfl rfl rfl ?_
    refine zCb rfl rfl rfl rfl g0 ?_
    refine zBl rfl rfl rfl rfl ?_
    refine zCb rfl rfl rfl rfl g0 ?_
    refine zBl rfl rfl rfl rfl ?_
    refine zCb rfl rfl rfl rfl g0 ?_
    refine zBl rfl rfl rfl rfl ?_
    refine zBl rfl rfl rfl rfl ?_
    refine zCb rfl rfl rfl rfl g0 ?_
    refine zBl rfl rfl rfl rfl ?_
    refine d_w rfl (fun _ => zBg (v := _) rfl rfl rfl rfl) rfl (d_w rfl (fun _ => zAs rfl rfl) rfl ?_)
    refine zBm ?_
    refine zAi (zAc (g6 _ _ (zAb (zA6 rfl rfl (w_p (zBo rfl rfl rfl rfl (by omega) (by omega)) rfl (zBw rfl rfl (zAd (zAc (g4 _ _ (nxI (c.seen.length - (k + 1)) (by omega) ?_))))))))))
    first
      | exact ⟨k + 1, bi2 (by rw [soTo_no hk2 hla (by assumption), hb]) rfl, by omega, rfl, g0.tail⟩
      | exact ⟨k + 1, bi2 (by rw [zE0 hk2 hla (by assumption), hb, hgd]; rfl) rfl, by omega, rfl, g0.tail⟩
      | exact ⟨k + 1, bi2 (by rw [zE0 hk2 hla (by assumption), hb, hgd]; rw [Bool.eq_iff_iff]; simp) rfl, by omega, rfl, g0.tail⟩
      | exact ⟨k + 1, bi2 (by rw [zE0 hk2 hla (by assumption), hb]; rfl) rfl, by omega, rfl, g0.tail⟩
   try simp only [zS] at g7
   refine zAm rfl rfl rfl ?_
   refine zAm rfl rfl rfl ?_
   refine zAm rfl rfl rfl ?_
   refine zAm rfl rfl rfl ?_
   refine w_p (zBg (v := _) rfl rfl rfl rfl) rfl (zAd (zAc (g9 _ _ (zBs rfl rfl ?_))))
   refine zAn (zAi (zAc (g6 _ _ (zAb (zA6 rfl rfl (w_p (zBo rfl rfl rfl rfl (by omega) (by omega)) rfl (zBw rfl rfl (zAd (zAc (g4 _ _ (nxI (c.seen.length - (k + 1)) (by omega) ?_)))))))))))
   first
     | exact ⟨k + 1, bi2 (by rw [soTo_no hk2 hla (by assumption), hb]) rfl, by omega, rfl, g3.tail⟩
     | exact ⟨k + 1, bi2 (by rw [zE0 hk2 hla (by assumption), hb, hgd]; rfl) rfl, by omega, rfl, g3.tail⟩
     | exact ⟨k + 1, bi2 (by rw [zE0 hk2 hla (by assumption), hb, hgd]; rw [Bool.eq_iff_iff]; simp) rfl, by omega, rfl, g3.tail⟩
     | exact ⟨k + 1, bi2 (by rw [zE0 hk2 hla (by assumption), hb]; rfl) rfl, by omega, rfl, g3.tail⟩
  try simp only [zS] at g5
  refine zBt (zAj (zAj (zAv (zAc (ge _ _ (zAf (fun gC gm => (zAb (w_p (zAt rfl rfl) rfl (w_p (zAs rfl rfl) rfl ?_))))))))))
  refine zAd (zAc (gm _ _ (zA8 (zBa (l := [.tmp 8]) (vs := [_]) rfl ⟨⟨rfl, (rfl : _ = Value.bool _)⟩, trivial⟩ ?_))))
  have hkl : k = c.seen.length := by omega
  subst hkl
  exact ⟨congrArg Value.bool hb.symm, hs.tail⟩

theorem c8 {w0 w : World} {F : List (Nat × Obj)} (c : Cargo) (p : AtT) (hm : TIn w0 F c p) (hc : c.Ok) (hold : Nat) (hh : hold < c.holds.length) (hs : St w0 w F) :
  Con Tryz.prog 8 [.agg (c.cells p).toArray, .int .i64 (hold : Int), .slice none 0 0] w fun v w' => ∃ (B : List (Nat × Obj)) (vs : List (List Value)) (a : Option Addr) (n : Nat), v = .slice a (waysR c hold).length n ∧ Sl w0 B a 2 vs ∧ WayL w0 B vs (waysR c hold) ∧ St w0 w' (B ++ F) := by
  refine zAo (n := 40) func8 rfl rfl (zNl rfl) ?_
  obtain ⟨ae, ce, ah, ch, al, cl, an, cn⟩ := p
  have hll := hc.ll
  have hhb := hc.hold _ (List.getElem_mem hh)
  have hha := zIj hh
  have hh1 : (holdAt c hold).1 = c.holds[hold].1 := by rw [hha]
  have hh2 : (holdAt c hold).2 = c.holds[hold].2 := by rw [hha]
  refine zAf (fun K2 gg => (zAb (zCj (v := .agg #[.slice _ _ _, .int _ _, .slice _ _ _, .slice _ _ _, .slice _ _ _]) (cs := [_,_,_,_,_]) zAa rfl rfl rfl hs (fun b3 w4 ga => ?_))))
  refine zBi rfl rfl (zAd (zAc (gg _ _ (zAf (fun K7 gh => (zAb (w_p (zA2 (vs := [_,_,_,_,_]) isAgg27 sizeOf27 ga rfl rfl (aow 0 [_,_,_,_,_])) rfl (zA6 rfl rfl ?_))))))))
  refine zA4 zAa call39 rfl rfl rfl rfl (c39 c _ hm.cons hc hold hh ga) ?_
  rintro _ w9 ⟨AB, vA, aA, cA, rfl, hslA, hwlA, g5⟩
  replace g5 := (show St _ _ (AB ++ (_ :: F)) from g5)
  have gi := (show St _ _ (_ :: (AB ++ (F))) from St.pk [AB, [_]] [1,0] g5)
  have hal : (allR c hold).length ≤ 1024 := by
    have h1 := warmTo_len hc (hold := hold) ((holdAt c hold).2 + 1 - (holdAt c hold).1).toNat
    have h2 : ((holdAt c hold).2 + 1 - (holdAt c hold).1).toNat ≤ 4 := by omega
    have h3 : ((holdAt c hold).2 + 1 - (holdAt c hold).1).toNat * 256 ≤ 4 * 256 := Nat.mul_le_mul_right 256 h2
    unfold allR; omega
  refine w_p (zBz rfl rfl) rfl (zAd (zAc (gh _ _ (zAf (fun gz gj => (zAb (zBi rfl rfl (zAd (zAc (gj _ _ (zAf (fun gA gk => (zAf (fun gB gm => (zAb (zBi rfl rfl ?_))))))))))))))))
  refine zAd (zAc (gm _ _ (zAq ?_)))
  refine zB6 [8,9,13,14,15,16,17,18,19,20,21,22,23,24,25,26,27,28,29,30,31,32,33,34,35,36,37,38] [8,9] (fun kk vs0 w => ∃ (i : Nat) (v : Value) (OB : List (Nat × Obj)) (rows : List (List Value)), vs0 = [v, .int .i64 i] ∧ i ≤ (allR c hold).length ∧ kk = (allR c hold).length - i ∧ Rt.Own v 44 2 (((allR c hold).take i).filter (wayOk c hold)).length rows.flatten OB ∧ WayL w0 AB rows (((allR c hold).take i).filter (wayOk c hold)) ∧ St w0 w ((b3, blk 27 (c.cells ⟨ae, ce, ah, ch, al, cl, an, cn⟩)) :: (OB ++ (AB ++ F)))) ((allR c hold).length) ?_ ?_
  ·
   exact ⟨0, _, [], [], rfl, by omega, by omega, zEm 44 2, WayL.nil _ _, gi⟩
  intro k vs μ gC hI gD gc
  clear hs
  obtain ⟨i, v, OB, rows, rfl, hia, rfl, hown, hwl, hs⟩ := hI
  refine zAf (fun gE gn => (zAf (fun gF go => (zAb (zA6 rfl rfl (w_p (zAx rfl rfl) rfl (w_p (zBc underlying39 rfl rfl) rfl (w_p (zCp rfl rfl rfl rfl) rfl (zAd (zAc (go _ _ (zAr rfl rfl (fun g6 => ?_) (fun g6 => ?_)))))))))))))
  ·
   try simp only [zS] at g6
   refine zAn (zAc (gn _ _ (zAf (fun gG gd => (zAq ?_)))))
   refine zAf (fun gH gp => ?_)
   have hi2 : i < (allR c hold).length := by omega
   obtain ⟨bx, ox, b2, c2, haA, hx0, hsE, hnx⟩ := wl_at hslA hwlA hi2
   subst haA
   have hx := hx0.top (F := F)
   have hin := all_in (List.getElem_mem hi2)
   have hg5 := zGf hc hin.1
   have hwi : (((allR c hold).take i).filter (wayOk c hold)).length ≤ i := by have := List.length_filter_le (wayOk c hold) ((allR c hold).take i); rw [List.length_take] at this; omega
   refine zCq [] [(0,1),(1,0),(2,1),(3,1),(4,0),(6,0),(7,0),(8,0),(9,1),(11,0),(5,2),(10,2),(12,2)] zB4 (zBk (by kernel_rfl)) hs (fun gI g0 => ?_)
   refine zAz rfl zAa rfl g0 (fun _ hq => (zA2 (vs := [_,_,_,_,_]) isAgg27 sizeOf27 hq rfl rfl (aow 0 [_,_,_,_,_]))) ?_
   refine d_w rfl (fun _ => zAy rfl rfl) rfl ?_
   refine zAz rfl zAa rfl g0 (fun _ hq => (zA2 (vs := [_,_,_,_,_]) isAgg27 sizeOf27 hq rfl rfl (aow 0 [_,_,_,_,_]))) ?_
   refine zAz rfl zAa rfl g0 (fun _ hq => (zA2 (vs := [_,_,_,_,_]) isAgg27 sizeOf27 hq rfl rfl (aow 0 [_,_,_,_,_]))) ?_
   refine d_w rfl (fun _ => zAy rfl rfl) rfl (d_w rfl (fun _ => zAx rfl rfl) rfl (d_w rfl (fun _ => zAy rfl rfl) rfl (d_w rfl (fun _ => zA7 underlying39 sizeOf44 rfl rfl rfl rfl (i := _) rfl (by omega)) rfl ?_)))
   refine zAz rfl zAa rfl g0 (fun _ hq => (zA2 (vs := [_,_]) isAgg44 sizeOf44 hq.tail.drop rfl rfl hx)) ?_
   refine d_w rfl (fun _ => zAx rfl rfl) rfl ?_
   refine zBh rfl ?_
   refine zA4 zAa call10 rfl rfl rfl rfl (c10 c ⟨ae, ce, ah, ch, al, cl, an, cn⟩ hm.app.app.cons hc (hold : Int) g0) ?_
   rintro _ gJ ⟨LB, hownB, g3⟩
   replace g3 := (show St _ _ (LB ++ (_ :: OB ++ (AB ++ (F)))) from g3)
   obtain ⟨aB, cB, rfl, hslB, _, _⟩ := zFj (w0 := w0) hownB
   have hol := ofR_len c (hold : Int) c.lots.length
   refine zAd (qn ⟨g3.drop, ?_⟩)
   refine zBh rfl ?_
   refine zA4 zAa call9 rfl rfl rfl rfl (c9 c ⟨ae, ce, ah, ch, al, cl, an, cn⟩ hm.app.app.cons.app hc _ _ (ofR c (hold : Int)) (by unfold ofR; omega) (Sl.top hslB) (ofR_lis c _) ((allR c hold)[i]'hi2).1 (by omega) _ _ ((allR c hold)[i]'hi2).2 (Sl.top hsE).app.cons.app hnx hg5.1 hg5.2 g3) ?_
   rintro _ gK ⟨bT, rfl, g4⟩
   replace g4 := (show St _ _ (_ :: LB ++ (_ :: OB ++ (AB ++ (F)))) from g4)
   refine zAd (qn ⟨g4.tail.drop, ?_⟩)
   refine zBh rfl ?_
   refine zCo zAa call40 rfl rfl rfl rfl (c40 c ⟨ae, ce, ah, ch, al, cl, an, cn⟩ hm.app.app.cons.app.cons hc (hold : Int) _ _ (rTimes c (ofR c (hold : Int)) ((allR c hold)[i]'hi2).1 ((allR c hold)[i]'hi2).2) (zIb _ _ _ _) (zFx (i := 0) rfl) g4) (fun gL g7 => ?_)
   refine zAd (qn ⟨g7.tail.drop, ?_⟩)
   refine zBm ?_
   refine zAc (gp _ _ (zAr rfl rfl (fun g8 => ?_) (fun g8 => ?_)))
   ·
    try simp only [zS] at g8
    have ge := (show St _ _ (_ :: (OB ++ ((AB ++ (F))))) from g7.tail.drop)
    refine zAb (w_p (zBy (v := v) rfl rfl) rfl (w_p (zAx rfl rfl) rfl (zA6 rfl rfl (w_p (zA7 underlying39 sizeOf44 rfl rfl rfl rfl (i := _) rfl (by omega)) rfl (w_p (zA2 (vs := [_,_]) isAgg44 sizeOf44 ge.tail.drop rfl rfl hx) rfl ?_)))))
    refine zAu (ps := [(0, _)]) (pv := [(0, .agg #[.int _ _, .slice _ _ _])]) (cs := [_,_]) zAa rfl rfl (fun w => Try_RD_fb3 _ _ _ _ w) ge (fun gM gN gq => ?_)
    refine zC7 (X := (_ :: _ :: [])) (B := OB) (rows := [[_,_]]) (sz := 2) (bytes := 32) zAa underlying39 Try_info44 rfl rfl rfl rfl rfl rfl rfl rfl rfl gq hown (zBb (i := 0) rfl (by simp) rfl) rfl (by simp) (by simp [Value.oneCell']) (by simp only [maxLen]; omega) (by omega) (fun gt gO gf gu g9 => ?_)
    replace g9 := (show St _ _ (_ :: _ :: gf ++ (AB ++ (F))) from g9)
    refine w_p (zCu (v := gt) rfl rfl) rfl (zAd (zAi (zAc (gd _ _ (zAb (zA6 rfl rfl (w_p (zBo rfl rfl rfl rfl (by omega) (by omega)) rfl ?_)))))))
    refine zBw rfl rfl (zAd (zAc (gc _ _ (nxI ((allR c hold).length - (i + 1)) (by omega) ?_))))
    have gv := (show St _ _ (_ :: (gf ++ ((AB ++ (F))))) from g9.tail)
    exact ⟨i + 1, _,_,_, rfl, by omega, rfl, by rw [filt_yes hi2 (by assumption)]; exact own_wl gu, by rw [filt_yes hi2 (by assumption)]; exact WayL.snoc hwl hsE hnx, gv⟩
   try simp only [zS] at g8
   refine zAn (zAi (zAc (gd _ _ (zAb (zA6 rfl rfl (w_p (zBo rfl rfl rfl rfl (by omega) (by omega)) rfl (zBw rfl rfl (zAd (zAc (gc _ _ (nxI ((allR c hold).length - (i + 1)) (by omega) ?_)))))))))))
   have gw := (show St _ _ (_ :: (OB ++ ((AB ++ (F))))) from g7.tail.drop)
   exact ⟨i + 1, v, OB, rows, rfl, by omega, rfl, by rw [filt_no hi2 (by assumption)]; exact hown, by rw [filt_no hi2 (by assumption)]; exact hwl, gw⟩
  try simp only [zS] at g6
  refine zBt (zAj (zAj (zAv (zAc (gk _ _ (zAf (fun gP gx => (zAb (w_p (zBy (v := v) rfl rfl) rfl (w_p (zCu (v := v) rfl rfl) rfl ?_))))))))))
  refine zAd (zAc (gx _ _ (zA8 (zBa (l := [.tmp 6]) (vs := [_]) rfl ⟨⟨rfl, show _ = (v : Value) from rfl⟩, trivial⟩ ?_))))
  have gy := (show St _ _ ((OB ++ ((AB ++ (F))))) from hs.tail)
  have hin : i = (allR c hold).length := by omega
  subst hin
  rw [List.take_length] at hown hwl
  obtain ⟨aW, cW, rfl, hslW⟩ := own_wsl hown hwl AB
  exact ⟨OB ++ AB, rows, aW, cW, rfl, hslW, hwl.app, by rw [List.append_assoc]; exact gy⟩

theorem c5 {w0 w : World} {F : List (Nat × Obj)} (c : Cargo) (p : AtT) (hm : TIn w0 F c p) (hc : c.Ok) (hs : St w0 w F) :
  Con Tryz.prog 5 [.agg (c.cells p).toArray, .slice none 0 0] w fun v w' => v = .bool (someB c 0) ∧ St w0 w' F := by
  refine zAo (n := 24) func5 rfl rfl (zNl rfl) ?_
  obtain ⟨ae, ce, ah, ch, al, cl, an, cn⟩ := p
  have hlh := hc.lh
  refine zAf (fun K2 g7 => (zAb (zCj (v := .agg #[.slice _ _ _, .int _ _, .slice _ _ _, .slice _ _ _, .slice _ _ _]) (cs := [_,_,_,_,_]) zAa rfl rfl rfl hs (fun b3 w4 g8 => ?_))))
  refine zBi rfl rfl (zAd (zAc (g7 _ _ (zAf (fun K7 g9 => (zAb (zBi rfl rfl (zAd (zAc (g9 _ _ (zAf (fun K9 g5 => (zAf (fun gi ga => (zAb (zBi rfl rfl ?_))))))))))))))))
  refine zAd (zAc (ga _ _ (zAq ?_)))
  refine zB6 [5,6,7,8,9,10,11,12,13,14,15,16,17,18,19,20,21,22] [5,6] (fun kk vs w => ∃ (k : Nat), vs = [.bool (someTo c 0 k), .int .i64 k] ∧ k ≤ c.holds.length ∧ kk = c.holds.length - k ∧ St w0 w ((b3, blk 27 (c.cells ⟨ae, ce, ah, ch, al, cl, an, cn⟩)) :: F)) (c.holds.length) ?_ ?_
  ·
   exact ⟨0, rfl, by omega, by omega, g8⟩
  intro k vs μ gj hI gk gc
  obtain ⟨k, rfl, hka, rfl, hs⟩ := hI
  generalize hb : someTo c 0 k = b
  refine zAf (fun gm gd => (zAf (fun gn g6 => (zAb (zA6 rfl rfl (w_p (zAe (o := 2) (i := 2) underlying27 rfl sizeOf23 rfl rfl rfl) rfl (w_p (zAg isAgg23 hs rfl rfl (aow 0 [_])) rfl ?_)))))))
  refine w_p (zBc underlying23 rfl rfl) rfl (w_p (zCp rfl rfl rfl rfl) rfl (w_p (zAt rfl rfl) rfl (zB5 (fun g0 => ?_) (fun g0 => ?_))))
  ·
   try simp only [zS] at g0
   refine w_y rfl rfl rfl (zAt rfl rfl) rfl ?_
   refine w_p (zA5 (v := .bool _) rfl rfl rfl rfl) rfl (zAd (zAc (g6 _ _ (zAr rfl rfl (fun g3 => ?_) (fun g3 => ?_)))))
   ·
    try simp only [zS] at g3
    refine zAn (zAc (gd _ _ (zAf (fun go ge => (zAq ?_)))))
    have hk2 : k < c.holds.length := by omega
    refine zAb (w_p (zA2 (vs := [_,_,_,_,_]) isAgg27 sizeOf27 hs rfl rfl (aow 0 [_,_,_,_,_])) rfl (zA6 rfl rfl (w_p (zAx rfl rfl) rfl ?_)))
    refine zA4 zAa call8 rfl rfl rfl rfl (c8 c ⟨ae, ce, ah, ch, al, cl, an, cn⟩ hm.cons hc k hk2 hs) ?_
    rintro _ gp ⟨WB, vW, aW, cW, rfl, hslW, hwlW, g4⟩
    replace g4 := (show St _ _ (WB ++ (_ :: F)) from g4)
    refine w_p (zBc underlying39 rfl rfl) rfl (w_p (zEf rfl rfl rfl rfl) rfl (w_p (zAs rfl rfl) rfl (zAd (zAi (zAc (ge _ _ (zAb (zA6 rfl rfl (w_p (zBo rfl rfl rfl rfl (by omega) (by omega)) rfl ?_)))))))))
    refine zBw rfl rfl (zAd (zAc (gc _ _ (nxI (c.holds.length - (k + 1)) (by omega) ?_))))
    have gf := (show St _ _ (_ :: F) from g4.drop)
    exact ⟨k + 1, bi2 (some_next (hb.trans (by assumption)) (ways_len hc hk2)) rfl, by omega, rfl, gf⟩
   try simp only [zS] at g3
   refine zBt (zAj (zAj (zAv (zAc (g5 _ _ (zAf (fun gq gg => (zAb (w_p (zAt rfl rfl) rfl (w_p (zAs rfl rfl) rfl ?_))))))))))
   refine zAd (zAc (gg _ _ (zA8 (zBa (l := [.tmp 4]) (vs := [_]) rfl ⟨⟨rfl, (rfl : _ = Value.bool _)⟩, trivial⟩ ?_))))
   first
     | exact ⟨congrArg Value.bool (by have hkl : k = c.holds.length := (by omega); subst hkl; exact hb.symm), hs.tail⟩
     | exact ⟨congrArg Value.bool (by rw [(by assumption : b = false)]; exact (some_mono (show k ≤ c.holds.length by omega) (hb.trans (by assumption))).symm), hs.tail⟩
  try simp only [zS] at g0
  refine zAm rfl rfl rfl ?_
  refine w_p (zBg (v := _) rfl rfl rfl rfl) rfl (zAd (zAc (g6 _ _ (zBs rfl rfl ?_))))
  refine zBt (zAj (zAj (zAv (zAc (g5 _ _ (zAf (fun gt gh => (zAb (w_p (zAt rfl rfl) rfl (w_p (zAs rfl rfl) rfl ?_))))))))))
  refine zAd (zAc (gh _ _ (zA8 (zBa (l := [.tmp 4]) (vs := [_]) rfl ⟨⟨rfl, (rfl : _ = Value.bool _)⟩, trivial⟩ ?_))))
  first
    | exact ⟨congrArg Value.bool (by have hkl : k = c.holds.length := (by omega); subst hkl; exact hb.symm), hs.tail⟩
    | exact ⟨congrArg Value.bool (by rw [(by assumption : b = false)]; exact (some_mono (show k ≤ c.holds.length by omega) (hb.trans (by assumption))).symm), hs.tail⟩

end Go.Proofs.Ur
/- Plain words of the claim layer, of valid files whose routes rise: files, truths, which claims are paid, what the program's functions return. No conditions. -/
namespace Go.Rt.Cm
open Go.Rt.Ha (felt spanL upto bit listL fewest Bunch zD4 zC4 at_ zBv zDu upto_nodup zC2 bit01)
structure Lot where
  route : List Int
  lo : Int
  hi : Int
  worth : Int
structure Pap where
  says : Int
  lot : Int
  of_ : Int
structure Clm where
  lot : Int
  against : Int
  day : Int
structure File where
  parties : List ByteArray
  until_ : List Int
  lots : List Lot
  paps : List Pap
  clms : List Clm
structure AtF where
  ap : Option Addr
  cp : Nat
  au : Option Addr
  cu : Nat
  al : Option Addr
  cl : Nat
  aq : Option Addr
  cq : Nat
  ac : Option Addr
  cc : Nat
  ar : Nat → Option Addr
  cr : Nat → Nat
def Lot.cells (l : Lot) (a : Option Addr) (c : Nat) : List Value := [.slice a l.route.length c, .int .i64 l.lo, .int .i64 l.hi, .int .i64 l.worth]
def Pap.cells (x : Pap) : List Value := [.int .i64 x.says, .int .i64 x.lot, .int .i64 x.of_]
def Clm.cells (x : Clm) : List Value := [.int .i64 x.lot, .int .i64 x.against, .int .i64 x.day]
def lotAt (f : File) (i : Nat) : Lot := f.lots.getD i ⟨[], 0,0,0⟩
def papAt (f : File) (i : Nat) : Pap := f.paps.getD i ⟨0,0,0⟩
def clmAt (f : File) (i : Nat) : Clm := f.clms.getD i ⟨0,0,0⟩
def lrows (f : File) (p : AtF) : List (List Value) := (List.range f.lots.length).map fun i => (lotAt f i).cells (p.ar i) (p.cr i)
def prows (l : List Pap) : List (List Value) := l.map Pap.cells
def crows (l : List Clm) : List (List Value) := l.map Clm.cells
def srows (l : List ByteArray) : List (List Value) := l.map fun s => [Value.string s]
def File.cells (f : File) (p : AtF) : List Value := [.slice p.ap f.parties.length p.cp, .slice p.au f.until_.length p.cu, .slice p.al f.lots.length p.cl, .slice p.aq f.paps.length p.cq, .slice p.ac f.clms.length p.cc]
theorem lrow_at {f : File} {p : AtF} {i : Nat} (h : i < f.lots.length) : (lrows f p)[i]? = some ((lotAt f i).cells (p.ar i) (p.cr i)) := by simp [lrows, h]
structure Lot.Ok (np : Nat) (l : Lot) : Prop where
  len : 1 ≤ l.route.length ∧ l.route.length ≤ 4
  asc : ∀ i, i < l.route.length - 1 → l.route.getD i 0 < l.route.getD (i + 1) 0
  inn : ∀ z ∈ l.route, 0 ≤ z ∧ z < np
  turned : 0 ≤ l.lo ∧ l.lo ≤ l.hi ∧ l.hi < l.route.length
  worth : 1 ≤ l.worth ∧ l.worth ≤ 99
structure Pap.Ok (f : File) (x : Pap) : Prop where
  says : 0 ≤ x.says ∧ x.says ≤ 3
  lot : 0 ≤ x.lot ∧ x.lot < f.lots.length
  two : 2 ≤ x.says → 0 ≤ x.of_ ∧ x.of_ < f.lots.length ∧ x.lot ≠ x.of_
  one : x.says < 2 → x.of_ ∈ (lotAt f x.lot.toNat).route
structure File.Ok (f : File) : Prop where
  np : f.parties.length ≤ 4
  nm : ∀ s ∈ f.parties, nmOk s = true ∧ s.size ≤ 1000
  tw : f.parties.Nodup
  lu : f.until_.length = f.parties.length
  un : ∀ z ∈ f.until_, 0 ≤ z ∧ z ≤ 60
  ll : f.lots.length ≤ 4
  lot : ∀ l ∈ f.lots, l.Ok f.parties.length
  lp : f.paps.length ≤ 5
  pap : ∀ x ∈ f.paps, x.Ok f
  lc : f.clms.length ≤ 5
  clm : ∀ x ∈ f.clms, (0 ≤ x.lot ∧ x.lot < f.lots.length) ∧ (0 ≤ x.against ∧ x.against < f.parties.length) ∧ 0 ≤ x.day ∧ x.day ≤ 60
theorem zC5 {f : File} {i : Nat} (h : i < f.lots.length) : lotAt f i = f.lots[i] := by simp [lotAt, List.getD, h]
theorem pap_at {f : File} {i : Nat} (h : i < f.paps.length) : papAt f i = f.paps[i] := by simp [papAt, List.getD, h]
theorem zFr {f : File} {i : Nat} (h : i < f.clms.length) : clmAt f i = f.clms[i] := by simp [clmAt, List.getD, h]
theorem zGc {f : File} (hf : f.Ok) {i : Nat} (h : i < f.lots.length) : (lotAt f i).Ok f.parties.length := by rw [zC5 h]; exact hf.lot _ (List.getElem_mem h)
def withP (f : File) (p : List Int) (lot : Nat) : Int := (lotAt f lot).route.getD (p.getD lot 0).toNat 0
def idxI : List Int → Int → Int → Int
  | [], _, _ => -1
  | x :: l, z, i => if x = z then i else idxI l z (i + 1)
def papIs (f : File) (p : List Int) (x : Pap) : Bool :=
  if x.says = 0 then decide (idxI (lotAt f x.lot.toNat).route x.of_ 0 ≤ p.getD x.lot.toNat 0)
  else if x.says = 1 then decide (p.getD x.lot.toNat 0 < idxI (lotAt f x.lot.toNat).route x.of_ 0)
  else if x.says = 2 then decide (withP f p x.lot.toNat = withP f p x.of_.toNat)
  else decide (withP f p x.lot.toNat ≠ withP f p x.of_.toNat)
def soAt (f : File) (but : Nat) (p : List Int) (i : Nat) : Bool := !decide (bit but i = 0) || papIs f p (papAt f i)
def soTo (f : File) (but : Nat) (p : List Int) : Nat → Bool
  | 0 => true
  | i + 1 => soTo f but p i && soAt f but p i
def soC (f : File) (but : Nat) (p : List Int) : Bool := soTo f but p f.paps.length
def bunC (f : File) : List Bunch := f.lots.map fun l => ⟨l.lo, l.hi, 0,0⟩
def pad4 (h : List Int) : List Int := h ++ List.replicate (4 - h.length) 0
def truths (f : File) (but : Nat) : List (List Int) := ((felt (bunC f)).map pad4).filter (soC f but)
def In4 (f : File) (p : List Int) : Prop := p.length = 4 ∧ ∀ i, i < f.lots.length → (lotAt f i).lo ≤ p.getD i 0 ∧ p.getD i 0 ≤ (lotAt f i).hi
def beatB (c x : Clm) (i k : Nat) : Bool := decide (x.lot = c.lot) && decide (x.against = c.against) && (decide (x.day < c.day) || (decide (x.day = c.day) && decide (k < i)))
def beatTo (f : File) (i : Nat) : Nat → Bool
  | 0 => false
  | k + 1 => beatTo f i k || beatB (clmAt f i) (clmAt f k) i k
def paidB (f : File) (p : List Int) (i : Nat) : Bool := decide (withP f p (clmAt f i).lot.toNat = (clmAt f i).against) && decide ((clmAt f i).day ≤ f.until_.getD (clmAt f i).against.toNat 0) && !beatTo f i f.clms.length
def paidTo (f : File) (p : List Int) : Nat → Nat
  | 0 => 0
  | i + 1 => if paidB f p i then paidTo f p i ||| (1 <<< i) else paidTo f p i
def paid (f : File) (p : List Int) : Nat := paidTo f p f.clms.length
def whoSet (f : File) (lot : Nat) (l : List (List Int)) : Nat := l.foldl (fun s p => s ||| (1 <<< (withP f p lot).toNat)) 0
def who (f : File) (lot : Nat) : List Int := listL (whoSet f lot (truths f 0)) f.parties.length
def sureN (f : File) : List (List Int) → Nat
  | [] => 31
  | p :: l => paid f p &&& sureN f l
def mayN (f : File) : List (List Int) → Nat
  | [] => 0
  | p :: l => paid f p ||| mayN f l
def pays (f : File) (n : Nat) : Int := if ¬ bit (sureN f (truths f 0)) n = 0 then 1 else if bit (mayN f (truths f 0)) n = 0 then 2 else 0
def held (f : File) : List Int := listL (bitDiff (mayN f (truths f 0)) (sureN f (truths f 0))) f.clms.length
def sumOf (f : File) (party : Int) (l : List Int) : Int := l.foldl (fun s i => if (clmAt f i.toNat).against = party then s + (lotAt f (clmAt f i.toNat).lot.toNat).worth else s) 0
def sumP (f : File) (party : Int) (p : List Int) : Int := sumOf f party (listL (paid f p) f.clms.length)
def owesSt (f : File) (party : Int) (a : (Int × Int) × Bool) (p : List Int) : (Int × Int) × Bool :=
  if a.2 then ((sumP f party p, sumP f party p), false) else ((min a.1.1 (sumP f party p), max a.1.2 (sumP f party p)), false)
def owes (f : File) (party : Int) : Int × Int := ((truths f 0).foldl (owesSt f party) ((0,0), true)).1
def paysLot (f : File) (p : List Int) (lot : Nat) : Bool := (listL (paid f p) f.clms.length).any fun i => decide ((clmAt f i.toNat).lot = lot)
def openTo (f : File) : Nat → List Int
  | 0 => []
  | i + 1 => if (truths f 0).all (fun p => paysLot f p i) then openTo f i else openTo f i ++ [(i : Int)]
def often (f : File) (lot : Nat) (day : Int) (l : List (List Int)) : List Int :=
  l.foldl (fun o p => if paysLot f p lot = false ∧ day ≤ f.until_.getD (withP f p lot).toNat 0 then o.set (withP f p lot).toNat (o.getD (withP f p lot).toNat 0 + 1) else o) [0,0,0,0]
def bestTo (o : List Int) : Nat → Int × Int
  | 0 => (0,0)
  | i + 1 => if (bestTo o i).2 < o.getD i 0 then ((i : Int), o.getD i 0) else bestTo o i
def next (f : File) (lot : Nat) (day : Int) : Int × Int × Int := if (bestTo (often f lot day (truths f 0)) 4).2 = 0 then (0,0,9) else ((bestTo (often f lot day (truths f 0)) 4).1, (bestTo (often f lot day (truths f 0)) 4).2,0)
def wrongSt (f : File) (a : List Int × Bool) (s : Nat) : List Int × Bool :=
  if a.2 && (decide (a.1.length < (listL s f.paps.length).length) || (decide ((listL s f.paps.length).length = a.1.length) && Go.Rt.less a.1 (listL s f.paps.length))) then a
  else if truths f s ≠ [] then (listL s f.paps.length, true) else a
def wrongTo (f : File) : Nat → List Int × Bool
  | 0 => ([], false)
  | s + 1 => wrongSt f (wrongTo f s) s
def wrong (f : File) : List Int := (wrongTo f (2 ^ f.paps.length)).1
end Go.Rt.Cm
/- The walking engine, part 24: numbers that are turned into words without a sign, and into bytes; closed operations. No conditions. -/
namespace Go.Rt
variable {P : Program} {n : Nat} {ρ : Nat → Value} {ds : List Deferred} {w : World} {d : Option Nat} {ty : TypeId} {p : String} {e : Array Edge} {g : Option (Nat × Bool)}
theorem wrap_u64 {z : Int} (h1 : 0 ≤ z) (h2 : z < 18446744073709551616) : IntKind.u64.wrap z = z := by
  unfold IntKind.wrap
  simp [IntKind.bits, IntKind.signed]
  omega
theorem wrap_u8 {z : Int} (h1 : 0 ≤ z) (h2 : z < 256) : IntKind.u8.wrap z = z := by
  unfold IntKind.wrap
  simp [IntKind.bits, IntKind.signed]
  omega
theorem y_intU64 {s t : TypeId} {x : Operand} {a : Int} (hs : (P.underlying s).isSome = true) (ht : P.underlying t = some (.int .u64)) (ho : okO n x = true) (hx : ev ρ x = .int .i64 a) (h0 : 0 ≤ a) (h1 : a ≤ 9223372036854775807) :
    Yd P (A n ρ ds) ⟨d, .convert s t x, ty, p, e, g⟩ w (.int .u64 a) := by
  obtain ⟨q, hq⟩ := Option.isSome_iff_exists.1 hs
  have hw : IntKind.u64.wrap a = a := wrap_u64 h0 (by omega)
  simp [Yd, execOp, zCk ho, hx, Sem.run_bind, convert, run_underlying hq, run_underlying ht, Result.andThen, Conv.intToInt, hw]
theorem y_u64u8 {s t : TypeId} {x : Operand} {a : Int} (hs : (P.underlying s).isSome = true) (ht : P.underlying t = some (.int .u8)) (ho : okO n x = true) (hx : ev ρ x = .int .u64 a) (h0 : 0 ≤ a) (h1 : a ≤ 255) :
    Yd P (A n ρ ds) ⟨d, .convert s t x, ty, p, e, g⟩ w (.int .u8 a) := by
  obtain ⟨q, hq⟩ := Option.isSome_iff_exists.1 hs
  have hw : IntKind.u8.wrap a = a := wrap_u8 h0 (by omega)
  simp [Yd, execOp, zCk ho, hx, Sem.run_bind, convert, run_underlying hq, run_underlying ht, Result.andThen, Conv.intToInt, hw]
end Go.Rt
set_option maxRecDepth 20000
namespace Go.Proofs.Uc
open Go.Proofs.Tryz
open Go.Rt Go.Rt.Cm
open Go.Rt.Ha (felt spanL upto zBv listL bit Bunch zB8 zCi zBx zB2 zCg zCf zBu)
attribute [local irreducible] WL WC Con Yd At Ats Sl Agree DW
theorem Try_LA_fb0 (x0 : Int) (w : World) : (Instr.buildSlice 22 1 [(0, .int .i64 x0)].toArray).run Tryz.prog w = .ok (.slice (some ⟨w.heap.size, 0, none⟩) 1 1) (w.alloc (Go.Rt.blk 3 [.int .i64 x0])) := by kernel_rfl
theorem zC3 : Tryz.prog.info? 3 = some Tryz.t3 := by kernel_rfl
theorem zCl {P : Program} {a : Act} {o : Oper} {w : World} {x y : Option Addr} {l c : Nat} (h : x = y) (hy : Yd P a o w (.slice x l c)) : Yd P a o w (.slice y l c) := h ▸ hy
theorem zHz {P : Program} {a : Act} {o : Oper} {w : World} {k : IntKind} {z z' : Int} (h : z = z') (hy : Yd P a o w (.int k z)) : Yd P a o w (.int k z') := h ▸ hy
theorem asc_at {l : List Int} (hasc : ∀ i, i < l.length - 1 → l.getD i 0 < l.getD (i + 1) 0) {i : Nat} (h0 : 0 < i) (hi : i < l.length) : l[i - 1] < l[i] := by
  have h := hasc (i - 1) (by omega)
  rw [show i - 1 + 1 = i by omega] at h
  simpa [List.getD, hi, show i - 1 < l.length by omega] using h
theorem w_pureU8 {r : Option Nat} {P : Program} {ops : Array Oper} {Q : Exit → Act → World → Prop} {rest : List Oper} {n : Nat} {ρ : Nat → Value} {ds : List Deferred} {w : World} {d : Nat} {op : Op} {t : TypeId} {p : String} {e : Array Edge} {g : Option (Nat × Bool)} {b : UInt8} (hw : Want ops (A n ρ ds) ⟨some d, op, t, p, e, g⟩) (hy : Yd P (A n ρ ds) ⟨some d, op, t, p, e, g⟩ w (.int .u8 ((b.toNat : Nat) : Int))) (hd : isDefer op = false)
    (hk : ∀ z : Int, 0 ≤ z → z ≤ 255 → WL r P ops Q rest (A n (upd ρ d (.int .u8 z)) ds) w) : WL r P ops Q (⟨some d, op, t, p, e, g⟩ :: rest) (A n ρ ds) w :=
  w_pure hw hy hd (hk _ (by omega) (by have := b.toNat_lt; omega))
theorem take_ints {v : Value} {l : List Int} {i : Nat} {B : List (Nat × Obj)} (hi : i < l.length) (h : Rt.Own v 3 1 (i + 1) (iv (l.take i) ++ [[Value.int .i64 l[i]]].flatten) B) : Rt.Own v 3 1 (i + 1) (iv (l.take (i + 1))) B := by
  have e : iv (l.take i ++ [l[i]]) = iv (l.take i) ++ [[Value.int .i64 l[i]]].flatten := by unfold iv; rw [List.map_append]; rfl
  rw [List.take_succ_eq_append_getElem hi, e]; exact h
theorem zHn {w0 : World} {v : Value} {l : List Int} {B : List (Nat × Obj)} (h : Rt.Own v 3 1 l.length (iv l) B) (F : List (Nat × Obj)) : ∃ a c, v = .slice a l.length c ∧ Sl w0 (B ++ F) a 1 (l.map fun x => [Value.int .i64 x]) := zE6 (w0 := w0) h rfl F
theorem idx_take {l : List Int} {z : Int} {i : Nat} (hi : i < l.length) (h : ¬ z = l[i]) : idxI (l.drop i) z (i : Int) = idxI (l.drop (i + 1)) z ((i + 1 : Nat) : Int) := by
  rw [List.drop_eq_getElem_cons hi, idxI, if_neg (fun e => h e.symm)]; rfl
theorem idx_hit {l : List Int} {z : Int} {i : Nat} (hi : i < l.length) (h : z = l[i]) : idxI (l.drop i) z (i : Int) = (i : Int) := by
  rw [List.drop_eq_getElem_cons hi, idxI, if_pos h.symm]
theorem idx_end {l : List Int} {z : Int} {i : Nat} (hi : l.length ≤ i) : idxI (l.drop i) z (i : Int) = -1 := by
  rw [List.drop_of_length_le hi]; rfl
theorem c123 {w0 w : World} {F : List (Nat × Obj)} (z : Int) (hs : St w0 w F) :
  Con Tryz.prog 123 [.int .i64 z] w fun v w' => v = .bool false ∧ St w0 w' F := by
  refine zAo (n := 6) func123 rfl rfl (zNl rfl) ?_
  refine zAf (fun K2 g0 => (zAb (zBi rfl rfl (zAd (zAc (g0 _ _ (zAf (fun K4 g3 => (zAb (zA6 rfl rfl (zA6 rfl rfl (w_p (zCs rfl rfl rfl rfl) rfl ?_))))))))))))
  refine w_p (zAs rfl rfl) rfl (zAd (zAc (g3 _ _ (zA8 (zBa (l := [.tmp 2]) (vs := [_]) rfl ⟨⟨rfl, (rfl : _ = Value.bool _)⟩, trivial⟩ ?_)))))
  exact ⟨congrArg Value.bool (by simp), hs⟩

theorem c138 {w0 w : World} {F : List (Nat × Obj)} (a b : Int) (hs : St w0 w F) :
  Con Tryz.prog 138 [.int .i64 a, .int .i64 b] w fun v w' => v = .bool (decide (a < b)) ∧ St w0 w' F := by
  refine zAo (n := 17) func138 rfl rfl (zNl rfl) ?_
  refine zAf (fun K2 g0 => (zAb (zBi rfl rfl (zAd (zAc (g0 _ _ (zAf (fun K4 g3 => (zAb (zA6 rfl rfl (zCo zAa call123 rfl rfl rfl rfl (c123 _ hs) (fun w6 g4 => ?_))))))))))))
  refine w_p (zAt rfl rfl) rfl (zAm rfl rfl rfl ?_)
  refine zAm rfl rfl rfl ?_
  refine zAm rfl rfl rfl ?_
  refine w_p (zBg (v := _) rfl rfl rfl rfl) rfl (w_p (zAt rfl rfl) rfl (w_y rfl rfl rfl (zAy rfl rfl) rfl (w_y rfl rfl rfl (zAy rfl rfl) rfl (w_y rfl rfl rfl (zCp rfl rfl rfl rfl) rfl (w_p (zBg (v := .bool _) rfl rfl rfl rfl) rfl ?_)))))
  refine w_p (zAs rfl rfl) rfl (zAd (zAc (g3 _ _ (zA8 (zBa (l := [.tmp 4]) (vs := [_]) rfl ⟨⟨rfl, (rfl : _ = Value.bool _)⟩, trivial⟩ ?_)))))
  exact ⟨rfl, g4⟩

theorem c132 {w0 w : World} {F : List (Nat × Obj)} (a : Option Addr) (n : Nat) (l : List Int) (ha : Sl w0 F a 1 (l.map fun x => [Value.int .i64 x])) (hl : l.length ≤ 12) (hasc : ∀ i, i < l.length - 1 → l.getD i 0 < l.getD (i + 1) 0)  (hs : St w0 w F) :
  Con Tryz.prog 132 [.slice a l.length n, .int .i64 0, .int .i64 (l.length : Int)] w fun v w' => St w0 w' F := by
  refine zAo (n := 49) func132 rfl rfl (zNl rfl) ?_
  refine zAf (fun K2 g7 => (zAb (zA6 rfl rfl (w_p (zBo rfl rfl rfl rfl (by omega) (by omega)) rfl (zBw rfl rfl (zAd (zAc (g7 _ _ (zAq ?_)))))))))
  refine zB6 [6,7,10,11,12,13,14,15,16,17,18,19,20,21,22,23,24,25,26,27,28,29,30,31,32,33,34,35,36,37,38,39,40,41,42,43,44,45,46,47,48] [6] (fun kk vs w => ∃ i : Nat, vs = [.int .i64 (i : Int)] ∧ 1 ≤ i ∧ (i ≤ l.length ∨ i = 1) ∧ kk = l.length + 1 - i ∧ St w0 w F) (l.length) ?_ ?_
  ·
   exact ⟨1, rfl, by omega, by omega, by omega, hs⟩
  intro k vs μ w5 hI K4 g8
  obtain ⟨i, rfl, hi1, hia, rfl, hs⟩ := hI
  refine zAf (fun K7 g9 => (zAf (fun K9 ga => (zAb (zA6 rfl rfl (zA6 rfl rfl (w_p (zCp rfl rfl rfl rfl) rfl (zAd (zAc (ga _ _ (zAr rfl rfl (fun g0 => ?_) (fun g0 => ?_))))))))))))
  ·
   try simp only [zS] at g0
   refine zAn (zAc (g9 _ _ (zAf (fun gf gc => (zAq ?_)))))
   refine zAf (fun gg gd => ?_)
   have hi2 : i < l.length := by omega
   obtain ⟨bx, ox, hbx, hx⟩ := zCx ha hi2
   subst hbx
   obtain ⟨by_, oy, hby, hy⟩ := zCx ha (show i - 1 < l.length by omega)
   cases hby
   have hlt := asc_at hasc (by omega) hi2
   have hjm : ((i : Nat) : Int) - 1 = ((i - 1 : Nat) : Int) := by omega
   refine zAb (zA6 rfl rfl (zBw rfl rfl (zAd (zAc (gd _ _ (zAq ?_))))))
   refine zB6 [7,16,17,18,19,20,21,22,23,24,25,26,27,28,29,30,31,32,33,34,35,36,37,38,39,40,41,42,43,44,45,46,47,48] [7] (fun kk vs w => vs = [.int .i64 (i : Int)] ∧ kk = 0 ∧ St w0 w F) (0) ?_ ?_
   ·
    exact ⟨rfl, rfl, hs⟩
   intro k vs μ gh hI gi gj
   clear hs
   obtain ⟨rfl, rfl, hs⟩ := hI
   refine zAf (fun gk gm => (zAf (fun gn ge => (zCq [] [(0,0),(1,0),(2,0),(3,0),(4,0),(5,0),(6,0),(7,1),(8,0),(9,0),(10,0),(11,0),(12,1),(13,2),(14,0)] zB4 (zBk (by kernel_rfl)) hs (fun go g3 => ?_)))))
   refine d_w rfl (fun _ => zAy rfl rfl) rfl (d_w rfl (fun _ => zAy rfl rfl) rfl (d_w rfl (fun _ => zEf rfl rfl rfl rfl) rfl (d_w rfl (fun _ => zAt rfl rfl) rfl ?_)))
   refine zC6 (fun g4 => ?_) (fun g4 => ?_)
   ·
    try simp only [zS] at g4
    refine zBe rfl (zAh rfl rfl rfl) rfl (fun _ => (zAx rfl rfl)) ?_
    refine zBe rfl (zAh rfl rfl rfl) rfl (fun _ => (zAy rfl rfl)) ?_
    refine zBe rfl (zAh rfl rfl rfl) rfl (fun _ => (zA7 underlying22 sizeOf3 rfl rfl rfl rfl (i := i) rfl hi2)) ?_
    refine zAz rfl (zAh rfl rfl rfl) rfl g3 (fun _ hq => (zAg isAgg3 hq rfl rfl hx)) ?_
    refine zBe rfl (zAh rfl rfl rfl) rfl (fun _ => (zAx rfl rfl)) ?_
    refine zBe rfl (zAh rfl rfl rfl) rfl (fun _ => (zAy rfl rfl)) ?_
    refine zBe rfl (zAh rfl rfl rfl) rfl (fun _ => (zFb rfl rfl rfl rfl (by omega) (by omega))) ?_
    refine zBe rfl (zAh rfl rfl rfl) rfl (fun _ => (zA7 underlying22 sizeOf3 rfl rfl rfl rfl (i := i - 1) hjm (by omega))) ?_
    refine zAz rfl (zAh rfl rfl rfl) rfl g3 (fun _ hq => (zAg isAgg3 hq rfl rfl hy)) ?_
    refine zBh rfl ?_
    refine zA4 (zAh rfl rfl rfl) call138 rfl rfl rfl rfl (c138 _ _ g3) ?_
    rintro _ gp ⟨rfl, g6⟩
    refine zAd (qn ⟨g6, ?_⟩)
    refine d_w rfl (fun _ => zA5 (v := .bool _) rfl rfl rfl rfl) rfl ?_
    refine zBm ?_
    refine zAc (ge _ _ (zAr rfl rfl (fun g5 => ?_) (fun g5 => ?_)))
    ·
     exfalso
     try simp only [zS] at g5
     omega
    try simp only [zS] at g5
    refine zBt (zAj (zAj (zAv (zAi (zAc (gc _ _ (zAb (zA6 rfl rfl (w_p (zBo rfl rfl rfl rfl (by omega) (by omega)) rfl ?_)))))))))
    refine zBw rfl rfl (zAd (zAc (g8 _ _ (nxI (l.length + 1 - (i + 1)) (by omega) ?_))))
    exact ⟨i + 1, rfl, by omega, by omega, rfl, g6⟩
   exfalso
   try simp only [zS] at g4
   omega
  try simp only [zS] at g0
  refine zBt (zAj (zAj (zAv (q_end (l := []) (vs := []) rfl trivial ?_))))
  exact hs

theorem c130 {w0 w : World} {F : List (Nat × Obj)} (a : Option Addr) (n : Nat) (l : List Int) (ha : Sl w0 F a 1 (l.map fun x => [Value.int .i64 x])) (hl : l.length ≤ 12) (hasc : ∀ i, i < l.length - 1 → l.getD i 0 < l.getD (i + 1) 0) (z : Int) (hs : St w0 w F) :
  Con Tryz.prog 130 [.slice a l.length n, .int .i64 0, .int .i64 (l.length : Int), .int .i64 z] w fun v w' => St w0 w' F := by
  refine zAo (n := 134) func130 rfl rfl (zNl rfl) ?_
  refine zAf (fun K2 g3 => (zAb (zBi rfl rfl (zAd (zAc (g3 _ _ (zAf (fun K4 g4 => (zAb (zBi rfl rfl (zAd (zAc (g4 _ _ (zAq ?_))))))))))))))
  refine zB6 [1,2,3,8,9,10,11,12,13,14,15,16,17,18,19,20,21,22,23,24,25,26,27,28,29,30,31,32,33,34,35,36,37,38,39,40,41,42,43,44,45,46,47,48,49,50,51,52,53,54,55,56,57,58,59,60,61,62,63,64,65,66,67,68,69,70,71,72,73,74,75,76,77,78,79,80,81,82,83,84,85,86,87,88,89,90,91,92,93,94,95,96,97,98,99,100,101,102,103,104,105,106,107,108,109,110,111,112,113,114,115,116,117,118,119,120,121,122,123,124,125,126,127,128,129,130,131,132,133] [1,2] (fun kk vs w => vs = [.int .i64 0, .int .i64 (l.length : Int)] ∧ kk = 0 ∧ St w0 w F) (0) ?_ ?_
  ·
   exact ⟨rfl, rfl, hs⟩
  intro k vs μ w7 hI K6 g9
  clear hs
  obtain ⟨rfl, rfl, hs⟩ := hI
  refine zAq ?_
  refine zAf (fun K9 g5 => (zAb (zA6 rfl rfl (zA6 rfl rfl (w_p (zFb rfl rfl rfl rfl (by omega) (by omega)) rfl (zBw rfl rfl (zAd (zAc (g5 _ _ (zAf (fun ga gc => (zAf (fun gd g6 => (zAb (zA6 rfl rfl ?_)))))))))))))))
  refine w_p (zFc rfl rfl rfl rfl) rfl (zAd (zAc (g6 _ _ (zAr rfl rfl (fun g0 => ?_) (fun g0 => ?_)))))
  ·
   try simp only [zS] at g0
   refine zAf (fun ge g7 => (zAb (w_p (zAx rfl rfl) rfl (zA6 rfl rfl (zA6 rfl rfl (zA4 zAa call132 rfl rfl rfl rfl (c132 a n l ha hl hasc hs) ?_))))))
   rintro _ gf g8
   refine zAd (zAc (g7 _ _ (zA8 (zAl (zA9 (zAl (zA9 (zBa (l := []) (vs := []) rfl trivial ?_))))))))
   exact g8
  exfalso
  try simp only [zS] at g0
  omega

theorem c142 {w0 w : World} {F : List (Nat × Obj)} (m : Nat) (hm : m < 256) (hs : St w0 w F) :
  Con Tryz.prog 142 [.int .u64 (m : Int)] w fun v w' => ∃ z : Int, v = .int .i64 z ∧ St w0 w' F := by
  refine zAo (n := 25) func142 rfl rfl (zNl rfl) ?_
  refine zAf (fun K2 g4 => (zAb (zBi rfl rfl (zAd (zAc (g4 _ _ (zAf (fun K4 g5 => (zAf (fun K6 g6 => (zAb (zA6 rfl rfl (w_p (zGw rfl rfl rfl rfl) rfl ?_)))))))))))))
  refine zAd (zAc (g6 _ _ (zAr rfl rfl (fun h7 => ?_) (fun h7 => ?_))))
  ·
   exfalso
   try simp only [zS] at h7
   omega
  try simp only [zS] at h7
  refine zAn (zAc (g5 _ _ (zAf (fun K9 g7 => (zAf (fun gd g8 => (zAb (zA6 rfl rfl (w_p (zGw rfl rfl rfl rfl) rfl (zAd (zAc (g8 _ _ (zAr rfl rfl (fun g0 => ?_) (fun g0 => ?_))))))))))))))
  ·
   exfalso
   try simp only [zS] at g0
   omega
  try simp only [zS] at g0
  refine zAn (zAc (g7 _ _ (zAf (fun ge g9 => (zAf (fun gf ga => (zAb (zA6 rfl rfl (w_p (zGw rfl rfl rfl rfl) rfl (zAd (zAc (ga _ _ (zAr rfl rfl (fun g3 => ?_) (fun g3 => ?_))))))))))))))
  ·
   exfalso
   try simp only [zS] at g3
   omega
  try simp only [zS] at g3
  refine zAn (zAc (g9 _ _ (zAf (fun gg gc => (zAb (zA6 rfl rfl (zA6 rfl rfl (w_p (y_u64u8 (by rw [underlying197]; rfl) underlying5 rfl rfl (by omega) (by omega)) rfl ?_))))))))
  refine w_pureU8 zAa (y_strIdx underlying9 rfl rfl rfl rfl (i := m) rfl (by show m < 256; omega)) rfl (fun z hz0 hz1 => ?_)
  refine w_p (y_u8int (by rw [underlying5]; rfl) underlying3 rfl rfl (by omega) (by omega)) rfl ?_
  refine w_p (zBo rfl rfl rfl rfl (by omega) (by omega)) rfl (zBw rfl rfl (zAd (zAc (gc _ _ (zA8 (zBa (l := [.tmp 2]) (vs := [_]) rfl ⟨⟨rfl, (rfl : _ = Value.int _ _)⟩, trivial⟩ ?_))))))
  exact ⟨_, rfl, hs⟩

theorem c131 {w0 w : World} {F : List (Nat × Obj)} (m : Nat) (hm : m < 256) (hs : St w0 w F) :
  Con Tryz.prog 131 [.int .u64 (m : Int)] w fun v w' => ∃ z : Int, v = .int .i64 z ∧ St w0 w' F := by
  refine zAo (n := 8) func131 rfl rfl (zNl rfl) ?_
  refine zAf (fun K2 g0 => (zAb (zBi rfl rfl (zAd (zAc (g0 _ _ (zAf (fun K4 g3 => (zBs rfl rfl ?_)))))))))
  refine zAn (zAc (g3 _ _ (zAf (fun K6 g4 => (zAb (zA6 rfl rfl (zA4 zAa call142 rfl rfl rfl rfl (c142 m hm hs) ?_)))))))
  rintro _ w8 ⟨z, rfl, g5⟩
  refine zBw rfl rfl (zAd (zAc (g4 _ _ (zA8 (zBa (l := [.tmp 2]) (vs := [_]) rfl ⟨⟨rfl, (rfl : _ = Value.int _ _)⟩, trivial⟩ ?_)))))
  exact ⟨_, rfl, g5⟩

theorem c121 {w0 w : World} {F : List (Nat × Obj)} (a : Option Addr) (n : Nat) (l : List Int) (ha : Sl w0 F a 1 (l.map fun x => [Value.int .i64 x])) (hl : l.length ≤ 12) (hasc : ∀ i, i < l.length - 1 → l.getD i 0 < l.getD (i + 1) 0)  (hs : St w0 w F) :
  Con Tryz.prog 121 [.slice a l.length n] w fun v w' => St w0 w' F := by
  refine zAo (n := 11) func121 rfl rfl (zNl rfl) ?_
  refine zAf (fun K2 g0 => (zAb (w_p (zAx rfl rfl) rfl (w_p (zBc underlying22 rfl rfl) rfl (zBw rfl rfl (zAd (zAc (g0 _ _ (zAb (w_p (zAx rfl rfl) rfl ?_))))))))))
  refine zA6 rfl rfl (zA6 rfl rfl (w_p (y_intU64 (by rw [underlying3]; rfl) underlying186 rfl rfl (by omega) (by omega)) rfl ?_))
  refine zA4 zAa call131 rfl rfl rfl rfl (c131 l.length (by omega) hs) ?_
  rintro _ w4 ⟨z, rfl, g3⟩
  refine zA4 zAa call130 rfl rfl rfl rfl (c130 a n l ha hl hasc z g3) ?_
  rintro _ w7 g4
  refine zAd (q_end (l := []) (vs := []) rfl trivial ?_)
  exact g4

theorem c103 {w0 w : World} {F : List (Nat × Obj)} (a : Option Addr) (n m : Nat) (hs : St w0 w F) :
  Con Tryz.prog 103 [.slice a m n] w fun v w' => ∃ bq, v = .func (.func 122) #[] #[.pointer (some ⟨bq, 0, none⟩)] ∧ St w0 w' ((bq, blk 22 [.slice a m n]) :: F) := by
  refine zAo (n := 4) func103 rfl rfl (zNl rfl) ?_
  refine zAf (fun K2 g0 => (zAb (zCj (v := .slice _ _ _) (cs := [_]) zAa rfl rfl rfl hs (fun b3 w4 g3 => ?_))))
  refine zBi rfl rfl (zAd (zAc (g0 _ _ (zAf (fun K7 g4 => (zAb (w_p (zCc (fv := []) (cv := [_]) rfl rfl rfl rfl) rfl (w_p (zCu (v := .func _ _ _) rfl rfl) rfl ?_))))))))
  refine zAd (zAc (g4 _ _ (zA8 (zBa (l := [.tmp 2]) (vs := [_]) rfl ⟨⟨rfl, show _ = (.func _ _ _ : Value) from rfl⟩, trivial⟩ ?_))))
  exact ⟨_, rfl, g3⟩

theorem values_iter {w0 : World} {F : List (Nat × Obj)} (bq : Nat) (a : Option Addr) (n : Nat) (l : List Int) (ha : Sl w0 F a 1 (l.map fun x => [Value.int .i64 x])) (hl : l.length ≤ 12) (h1 : Ats w0 F bq 0 [.slice a l.length n]) : Iter Tryz.prog 122 [] [.pointer (some ⟨bq, 0, none⟩)] (l.map fun x => Value.int .i64 x) w0 F := by
  intro J Js yv B X w hyv hy hJ hs
  obtain ⟨yf, ya, yb, rfl⟩ := hyv
  show Con Tryz.prog 122 [.func yf ya yb, .pointer (some ⟨bq, 0, none⟩)] w _
  refine zAo (n := 16) func122 rfl rfl (zNl rfl) ?_
  refine zAf (fun K2 g5 => (zAb (w_p (zAg isAgg22 hs.drop.drop rfl rfl h1) rfl (w_p (zBc underlying22 rfl rfl) rfl (w_p (zBy (v := _) rfl rfl) rfl (zAd (zAc (g5 _ _ (zAq ?_)))))))))
  refine zB6 [4,7,8,9,10,11,12,13,14,15] [7] (fun kk vs w => ∃ (i : Nat) (B : List (Nat × Obj)), vs = [.int .i64 (i : Int)] ∧ i ≤ l.length ∧ kk = l.length - i ∧ J i B ∧ St w0 w (X ++ (B ++ F))) (l.length) ?_ ?_
  ·
   exact ⟨0, B, rfl, by omega, by omega, hJ, hs⟩
  intro k vs μ w5 hI K4 g6
  clear hJ hs
  obtain ⟨i, B, rfl, hia, rfl, hJ, hs⟩ := hI
  refine zAf (fun K7 g7 => (zAb (w_p (zCp rfl rfl rfl rfl) rfl (zAd (zAc (g7 _ _ (zAf (fun K9 g8 => (zAr rfl rfl (fun g3 => ?_) (fun g3 => ?_))))))))))
  ·
   try simp only [zS] at g3
   refine zAn (zAc (g8 _ _ (zAf (fun gc g9 => (zAq ?_)))))
   refine zAf (fun gd ga => ?_)
   have hi2 : i < l.length := by omega
   obtain ⟨bx, ox, hbx, hx⟩ := zCx ha hi2
   subst hbx
   refine zAb (w_p (zA7 underlying22 sizeOf3 rfl rfl rfl rfl (i := _) rfl (by omega)) rfl (w_p (zAg isAgg3 hs.drop.drop rfl rfl hx) rfl (zBw rfl rfl (zAd (zAc (ga _ _ (zAf (fun ge g4 => (zAb (w_p (zBy (v := .func _ _ _) rfl rfl) rfl ?_))))))))))
   refine zA6 rfl rfl (zD0 zAa rfl rfl rfl rfl ((show FCon _ _ _ _ _ from by have h := hy i (by simpa using hi2) B X _ hJ hs; rw [List.getElem_map] at h; exact h)) ?_)
   rintro _ gf ⟨B1, g0, (⟨rfl, hJ1⟩ | ⟨rfl, hJ1⟩)⟩
   ·
    replace g0 := (show St _ _ (X ++ (B1 ++ (F))) from g0)
    refine w_p (zDo rfl rfl) rfl (zAd (zAc (g4 _ _ (zBs rfl rfl ?_))))
    refine zAn (zAi (zAc (g9 _ _ (zAb (w_p (zBo rfl rfl rfl rfl (by omega) (by omega)) rfl (zA6 rfl rfl (zAd (zAc (g6 _ _ (nxI (l.length - (i + 1)) (by omega) ?_))))))))))
    exact ⟨i + 1, B1, rfl, by omega, rfl, hJ1, g0⟩
   replace g0 := (show St _ _ (X ++ (B1 ++ (F))) from g0)
   refine w_p (zDo rfl rfl) rfl (zAd (zAc (g4 _ _ (zDb rfl rfl ?_))))
   refine zA8 (zA9 (zAl (zAl (zA9 (zBa (l := []) (vs := []) rfl trivial ?_)))))
   first
     | exact ⟨B1, g0, .inr hJ1⟩
     | exact ⟨B, g0, .inl (by rw [List.length_map, show l.length = i by omega]; exact hJ)⟩
  try simp only [zS] at g3
  refine zBt (zAj (zAj (zAv (q_end (l := []) (vs := []) rfl trivial ?_))))
  first
    | exact ⟨B1, hs, .inr hJ1⟩
    | exact ⟨B, hs, .inl (by rw [List.length_map, show l.length = i by omega]; exact hJ)⟩

theorem c129 {w0 w : World} {F : List (Nat × Obj)} (bq : Nat) (a : Option Addr) (n : Nat) (l : List Int) (ha : Sl w0 F a 1 (l.map fun x => [Value.int .i64 x])) (hl : l.length ≤ 12) (h1 : Ats w0 F bq 0 [.slice a l.length n]) (hs : St w0 w F) :
  Con Tryz.prog 129 [.slice none 0 0, .func (.func 122) #[] #[.pointer (some ⟨bq, 0, none⟩)]] w fun v w' => ∃ B, Rt.Own v 3 1 l.length (iv l) B ∧ St w0 w' (B ++ F) := by
  refine zEa (n := 13) func129 rfl rfl (zNl rfl) ?_
  refine zAf (fun K2 g6 => (zAb (zCj (v := .slice _ _ _) (cs := [_]) zAa rfl rfl rfl hs (fun b3 w4 g7 => ?_))))
  refine zBi rfl rfl (zAd (zAc (g6 _ _ (zAf (fun K7 g8 => (zAf (fun K9 g9 => (zAb (w_p (zBy (v := .func _ _ _) rfl rfl) rfl (zAd (zAc (g9 _ _ (zAq ?_)))))))))))))
  refine zG0 ([_]) (fun i Bx => ∃ (v : Value) (B : List (Nat × Obj)), Bx = (b3, blk 22 [v]) :: B ∧ Rt.Own v 3 1 i (iv (l.take i)) B) (fun _ _ => False) rfl rfl rfl call122 (values_iter bq a n l ha hl h1) g7 (.refl _) ⟨_, [], rfl, zEm 3 1⟩ ?_ ?_ ?_
  ·
   intro lp i hi Bx Xr Xr2 gg hJ hs K ga
   obtain ⟨vO, B1, rfl, hown⟩ := hJ
   have hi2 : i < l.length := by simpa using hi
   rw [List.getElem_map]
   replace hs := (show St _ _ (_ :: (B1 ++ (Xr ++ F))) from hs)
   refine zAb (zBw rfl rfl (zAd (zAc (ga _ _ (_ :: B1) hs (fun gh g0 => ?_)))))
   replace g0 := (show St _ _ (_ :: B1 ++ (Xr2 ++ (F))) from g0)
   refine zAq ?_
   refine zAb (w_p (zAg isAgg22 g0 rfl rfl (aow 0 [_])) rfl (zA6 rfl rfl ?_))
   refine zAu (ps := [(0, _)]) (pv := [(0, .int _ _)]) (cs := [_]) zAa rfl rfl (fun w => Try_LA_fb0 _ w) g0 (fun gi gj gc => ?_)
   refine zC7 (X := (_ :: _ :: [])) (B := B1) (rows := [[_]]) (sz := 1) (bytes := 8) zAa underlying22 zC3 rfl rfl rfl rfl rfl rfl rfl rfl rfl gc hown (zBb (i := 0) rfl (by simp) rfl) rfl (by simp) (by simp [Value.oneCell']) (by simp only [maxLen]; omega) (by omega) (fun gk gm g4 g5 g3 => ?_)
   replace g3 := (show St _ _ (_ :: _ :: g4 ++ (Xr2 ++ (F))) from g3)
   obtain ⟨a3, c3, rfl⟩ := Rt.Own.slice g5
   refine zBj 1 (.slice _ _ _) [_] sizeOf22 g3 (fun gn gd => ?_)
   refine zAd (zAi (zD2 (_ :: g4) gd.tail ?_))
   exact ⟨_, _, rfl, take_ints hi2 g5⟩
  ·
   intro bd Bx go hJ hs
   obtain ⟨vO, B1, rfl, hown⟩ := hJ
   rw [List.length_map, List.take_of_length_le (Nat.le_refl _)] at hown
   refine zAi (zAc (g8 _ _ (zAf (fun gp ge => (zAb (w_p (zAg isAgg22 hs rfl rfl (aow 1 [_])) rfl (w_p (zCu (v := vO) rfl rfl) rfl (zAd ?_))))))))
   refine zAc (ge _ _ (zA8 (zGa (i := 0) (l := [.tmp 4]) (vs := [_]) hs rfl rfl (fun gq gf => ⟨⟨⟨rfl, show _ = (vO : Value) from rfl⟩, trivial⟩, ?_⟩))))
   exact ⟨B1, hown, gf.tail.tail⟩
  intro _ _ _ _ hJ
  exact hJ.elim

theorem c120 {w0 w : World} {F : List (Nat × Obj)} (bq : Nat) (a : Option Addr) (n : Nat) (l : List Int) (ha : Sl w0 F a 1 (l.map fun x => [Value.int .i64 x])) (hl : l.length ≤ 12) (h1 : Ats w0 F bq 0 [.slice a l.length n]) (hs : St w0 w F) :
  Con Tryz.prog 120 [.func (.func 122) #[] #[.pointer (some ⟨bq, 0, none⟩)]] w fun v w' => ∃ B, Rt.Own v 3 1 l.length (iv l) B ∧ St w0 w' (B ++ F) := by
  refine zAo (n := 5) func120 rfl rfl (zNl rfl) ?_
  refine zAf (fun K2 g3 => (zAb (zBi rfl rfl (zAd (zAc (g3 _ _ (zAf (fun K4 g4 => (zAb (w_p (zBy (v := .func _ _ _) rfl rfl) rfl ?_))))))))))
  refine zA4 zAa call129 rfl rfl rfl rfl (c129 bq a n l ha hl h1 hs) ?_
  rintro _ w6 ⟨B, hown, g0⟩
  replace g0 := (show St _ _ (B ++ (F)) from g0)
  obtain ⟨a3, c3, rfl, hsl3⟩ := zHn (w0 := w0) hown F
  refine w_p (zBz rfl rfl) rfl (zAd (zAc (g4 _ _ (zA8 (zBa (l := [.tmp 2]) (vs := [_]) rfl ⟨⟨rfl, show _ = (.slice _ _ _ : Value) from rfl⟩, trivial⟩ ?_)))))
  exact ⟨B, hown, g0⟩

theorem c102 {w0 w : World} {F : List (Nat × Obj)} (bq : Nat) (a : Option Addr) (n : Nat) (l : List Int) (ha : Sl w0 F a 1 (l.map fun x => [Value.int .i64 x])) (hl : l.length ≤ 12) (hasc : ∀ i, i < l.length - 1 → l.getD i 0 < l.getD (i + 1) 0) (h1 : Ats w0 F bq 0 [.slice a l.length n]) (hs : St w0 w F) :
  Con Tryz.prog 102 [.func (.func 122) #[] #[.pointer (some ⟨bq, 0, none⟩)]] w fun v w' => ∃ B, Rt.Own v 3 1 l.length (iv l) B ∧ St w0 w' (B ++ F) := by
  refine zAo (n := 9) func102 rfl rfl (zNl rfl) ?_
  refine zAf (fun K2 g3 => (zAb (zBi rfl rfl (zAd (zAc (g3 _ _ (zAf (fun K4 g4 => (zAb (w_p (zBy (v := .func _ _ _) rfl rfl) rfl ?_))))))))))
  refine zA4 zAa call120 rfl rfl rfl rfl (c120 bq a n l ha hl h1 hs) ?_
  rintro _ w6 ⟨B, hown, g0⟩
  replace g0 := (show St _ _ (B ++ (F)) from g0)
  obtain ⟨a3, c3, rfl, hsl3⟩ := zHn (w0 := w0) hown F
  refine w_p (zBz rfl rfl) rfl (zAd (zAc (g4 _ _ (zAf (fun K9 g5 => (zAb (w_p (zAx rfl rfl) rfl (zA4 zAa call121 rfl rfl rfl rfl (c121 a3 c3 l hsl3 hl hasc g0) ?_))))))))
  rintro _ g8 g6
  refine zAd (zAc (g5 _ _ (zAf (fun g9 g7 => (zAb (w_p (zAx rfl rfl) rfl (w_p (zBz rfl rfl) rfl (zAd (zAc (g7 _ _ (zA8 (zBa (l := [.tmp 2]) (vs := [_]) rfl ⟨⟨rfl, show _ = (.slice _ _ _ : Value) from rfl⟩, trivial⟩ ?_))))))))))))
  exact ⟨B, hown, g6⟩

theorem c104 {w0 w : World} {F : List (Nat × Obj)} (a : Option Addr) (n : Nat) (l : List Int) (ha : Sl w0 F a 1 (l.map fun x => [Value.int .i64 x])) (hl : l.length ≤ 12) (hasc : ∀ i, i < l.length - 1 → l.getD i 0 < l.getD (i + 1) 0)  (hs : St w0 w F) :
  Con Tryz.prog 104 [.slice a l.length n] w fun v w' => v = .slice a l.length n ∧ St w0 w' F := by
  refine zAo (n := 61) func104 rfl rfl (zNl rfl) ?_
  refine zAf (fun K2 g5 => (zAb (zBi rfl rfl (zAd (zAc (g5 _ _ (zAf (fun K4 g6 => (zAf (fun K6 g7 => (zAb (w_p (zAx rfl rfl) rfl ?_))))))))))))
  refine w_p (zBc underlying22 rfl rfl) rfl (w_p (zCp rfl rfl rfl rfl) rfl (zAd (zAc (g7 _ _ (zAr rfl rfl (fun h7 => ?_) (fun h7 => ?_))))))
  ·
   try simp only [zS] at h7
   refine zAf (fun K9 g8 => (zAb (w_p (zAx rfl rfl) rfl (w_p (zBz rfl rfl) rfl (zAd (zAc (g8 _ _ (zA8 (zAl (zBa (l := [.tmp 2]) (vs := [_]) rfl ⟨⟨rfl, show _ = (.slice _ _ _ : Value) from rfl⟩, trivial⟩ ?_))))))))))
   exact ⟨rfl, hs⟩
  try simp only [zS] at h7
  refine zAn (zAc (g6 _ _ (zAf (fun gi g9 => (zAf (fun gj ga => (zAb (zBi rfl rfl (zAd (zAc (ga _ _ (zAq ?_))))))))))))
  refine zB6 [2,3,4,5,10,11,12,13,14,15,16,17,18,19,20,21,22,23,24,25,26,27,28,29,30,31,32,33,34,35,36,37,38,39,40,41,42,43,44,45,46,47,48,49,50,51,52,53,54,55,56,57,58,59] [3] (fun kk vs w => ∃ i : Nat, vs = [.int .i64 (i : Int)] ∧ 1 ≤ i ∧ i ≤ l.length ∧ kk = l.length - i ∧ St w0 w F) (l.length - 1) ?_ ?_
  ·
   exact ⟨1, rfl, by omega, by omega, by omega, hs⟩
  intro k vs μ gk hI gm gc
  obtain ⟨i, rfl, hi1, hia, rfl, hs⟩ := hI
  refine zAf (fun gn gd => (zAf (fun go ge => (zAb (zA6 rfl rfl (w_p (zAx rfl rfl) rfl (w_p (zBc underlying22 rfl rfl) rfl (w_p (zCp rfl rfl rfl rfl) rfl (zAd (zAc (ge _ _ (zAr rfl rfl (fun g0 => ?_) (fun g0 => ?_)))))))))))))
  ·
   try simp only [zS] at g0
   refine zAn (zAc (gd _ _ (zAf (fun gp gf => (zAq ?_)))))
   refine zAf (fun gq gg => ?_)
   have hi2 : i < l.length := by omega
   obtain ⟨bx, ox, hbx, hx⟩ := zCx ha hi2
   subst hbx
   obtain ⟨by_, oy, hby, hy⟩ := zCx ha (show i - 1 < l.length by omega)
   cases hby
   have hlt := asc_at hasc (by omega) hi2
   have hjm : ((i : Nat) : Int) - 1 = ((i - 1 : Nat) : Int) := by omega
   refine zCq [] [(0,0),(1,0),(2,0),(3,1),(4,0),(5,0),(6,0),(7,0),(8,1),(9,0)] zB4 (zBk (by kernel_rfl)) hs (fun gt g3 => ?_)
   refine d_w rfl (fun _ => zAx rfl rfl) rfl (d_w rfl (fun _ => zAy rfl rfl) rfl (d_w rfl (fun _ => zA7 underlying22 sizeOf3 rfl rfl rfl rfl (i := i) rfl hi2) rfl ?_))
   refine zAz rfl zAa rfl g3 (fun _ hq => (zAg isAgg3 hq rfl rfl hx)) ?_
   refine d_w rfl (fun _ => zAx rfl rfl) rfl (d_w rfl (fun _ => zAy rfl rfl) rfl (d_w rfl (fun _ => zFb rfl rfl rfl rfl (by omega) (by omega)) rfl (d_w rfl (fun _ => zA7 underlying22 sizeOf3 rfl rfl rfl rfl (i := i - 1) hjm (by omega)) rfl ?_)))
   refine zAz rfl zAa rfl g3 (fun _ hq => (zAg isAgg3 hq rfl rfl hy)) ?_
   refine d_w rfl (fun _ => zCa rfl rfl rfl rfl) rfl ?_
   refine zBm ?_
   refine zAc (gg _ _ (zAr rfl rfl (fun g4 => ?_) (fun g4 => ?_)))
   ·
    exfalso
    try simp only [zS] at g4
    omega
   try simp only [zS] at g4
   refine zAn (zAi (zAc (gf _ _ (zAb (zA6 rfl rfl (w_p (zBo rfl rfl rfl rfl (by omega) (by omega)) rfl (zBw rfl rfl (zAd (zAc (gc _ _ (nxI (l.length - (i + 1)) (by omega) ?_)))))))))))
   exact ⟨i + 1, rfl, by omega, by omega, rfl, g3⟩
  try simp only [zS] at g0
  refine zBt (zAj (zAj (zAv (zAc (g9 _ _ (zAf (fun gu gh => (zAb (w_p (zAx rfl rfl) rfl (w_p (zBz rfl rfl) rfl ?_))))))))))
  refine zAd (zAc (gh _ _ (zA8 (zBa (l := [.tmp 2]) (vs := [_]) rfl ⟨⟨rfl, show _ = (.slice _ _ _ : Value) from rfl⟩, trivial⟩ ?_))))
  exact ⟨rfl, hs⟩

theorem c116 {w0 w : World} {F : List (Nat × Obj)} (a : Option Addr) (n : Nat) (l : List Int) (ha : Sl w0 F a 1 (l.map fun x => [Value.int .i64 x])) (hl : l.length ≤ 12) (z : Int) (hs : St w0 w F) :
  Con Tryz.prog 116 [.slice a l.length n, .int .i64 z] w fun v w' => v = .int .i64 (idxI l z 0) ∧ St w0 w' F := by
  refine zAo (n := 19) func116 rfl rfl (zNl rfl) ?_
  refine zAf (fun K2 g4 => (zAb (zBi rfl rfl (zAd (zAc (g4 _ _ (zAf (fun K4 g5 => (zAf (fun K6 g6 => (zAb (w_p (zAx rfl rfl) rfl ?_))))))))))))
  refine w_p (zBc underlying22 rfl rfl) rfl (w_p (zBy (v := _) rfl rfl) rfl (zAd (zAc (g6 _ _ (zAq ?_)))))
  refine zB6 [4,5,8,9,10,11,12,13,14,15,16,17,18] [8] (fun kk vs w => ∃ i : Nat, vs = [.int .i64 (i : Int)] ∧ i ≤ l.length ∧ kk = l.length - i ∧ idxI l z 0 = idxI (l.drop i) z (i : Int) ∧ St w0 w F) (l.length) ?_ ?_
  ·
   exact ⟨0, rfl, by omega, by omega, rfl, hs⟩
  intro k vs μ w9 hI K8 g7
  obtain ⟨i, rfl, hia, rfl, hinv, hs⟩ := hI
  refine zAf (fun gg g8 => (zAb (w_p (zCp rfl rfl rfl rfl) rfl (zAd (zAc (g8 _ _ (zAf (fun gh g9 => (zAr rfl rfl (fun g0 => ?_) (fun g0 => ?_))))))))))
  ·
   try simp only [zS] at g0
   refine zAn (zAc (g9 _ _ (zAf (fun gi ga => (zAq ?_)))))
   refine zAf (fun gj gc => (zAb (zA6 rfl rfl (zBw rfl rfl (zAd (zAc (gc _ _ (zAf (fun gk gd => ?_)))))))))
   have hi2 : i < l.length := by omega
   obtain ⟨bx, ox, hbx, hx⟩ := zCx ha hi2
   subst hbx
   refine zAb (zA6 rfl rfl (w_p (zAx rfl rfl) rfl (zA6 rfl rfl (w_p (zA7 underlying22 sizeOf3 rfl rfl rfl rfl (i := _) rfl (by omega)) rfl (w_p (zAg isAgg3 hs rfl rfl hx) rfl (w_p (zCa rfl rfl rfl rfl) rfl ?_))))))
   refine zAd (zAc (gd _ _ (zAr rfl rfl (fun g3 => ?_) (fun g3 => ?_))))
   ·
    try simp only [zS] at g3
    refine zAf (fun gm ge => (zAb (zA6 rfl rfl (zBw rfl rfl (zAd (zAc (ge _ _ (zA8 (zA9 (zAl (zAl (zA9 (zAl (zBa (l := [.tmp 4]) (vs := [_]) rfl ⟨⟨rfl, (rfl : _ = Value.int _ _)⟩, trivial⟩ ?_))))))))))))))
    first
      | exact ⟨congrArg (Value.int .i64) (hinv.trans (idx_hit hi2 (by assumption))).symm, hs⟩
      | exact ⟨congrArg (Value.int .i64) (hinv.trans (idx_end (by omega))).symm, hs⟩
   try simp only [zS] at g3
   refine zAn (zAi (zAc (ga _ _ (zAb (w_p (zBo rfl rfl rfl rfl (by omega) (by omega)) rfl (zA6 rfl rfl (zAd (zAc (g7 _ _ (nxI (l.length - (i + 1)) (by omega) ?_))))))))))
   exact ⟨i + 1, rfl, by omega, rfl, hinv.trans (idx_take hi2 (by assumption)), hs⟩
  try simp only [zS] at g0
  refine zBt (zAj (zAj (zAv (zAc (g5 _ _ (zAf (fun gn gf => (zAb (zBi rfl rfl (zAd (zAc (gf _ _ (zA8 (zBa (l := [.tmp 4]) (vs := [_]) rfl ⟨⟨rfl, (rfl : _ = Value.int _ _)⟩, trivial⟩ ?_))))))))))))))
  first
    | exact ⟨congrArg (Value.int .i64) (hinv.trans (idx_hit hi2 (by assumption))).symm, hs⟩
    | exact ⟨congrArg (Value.int .i64) (hinv.trans (idx_end (by omega))).symm, hs⟩

theorem c107 {w0 w : World} {F : List (Nat × Obj)} (a : Option Addr) (n : Nat) (l : List Int) (ha : Sl w0 F a 1 (l.map fun x => [Value.int .i64 x])) (hl : l.length ≤ 12) (z : Int) (hs : St w0 w F) :
  Con Tryz.prog 107 [.slice a l.length n, .int .i64 z] w fun v w' => v = .bool (decide (0 ≤ idxI l z 0)) ∧ St w0 w' F := by
  refine zAo (n := 9) func107 rfl rfl (zNl rfl) ?_
  refine zAf (fun K2 g0 => (zAb (zBi rfl rfl (zAd (zAc (g0 _ _ (zAf (fun K4 g3 => (zAb (w_p (zAx rfl rfl) rfl (zA6 rfl rfl (zCo zAa call116 rfl rfl rfl rfl (c116 a n l ha hl z hs) (fun w6 g4 => ?_)))))))))))))
  refine w_p (zGw rfl rfl rfl rfl) rfl (w_p (zAs rfl rfl) rfl (zAd (zAc (g3 _ _ (zA8 (zBa (l := [.tmp 4]) (vs := [_]) rfl ⟨⟨rfl, (rfl : _ = Value.bool _)⟩, trivial⟩ ?_))))))
  exact ⟨rfl, g4⟩

theorem c119 {w0 w : World} {F : List (Nat × Obj)} (a : Option Addr) (n m : Nat) (l : List ByteArray) (hml : l.length = m) (hl : l.length ≤ 12) (ha : Sl w0 F a 1 (srows l)) (s : ByteArray) (hne : ∀ x ∈ l, ¬ s = x) (hs : St w0 w F) :
  Con Tryz.prog 119 [.slice a m n, .string s] w fun v w' => v = .int .i64 (-1) ∧ St w0 w' F := by
  refine zAo (n := 19) func119 rfl rfl (zNl rfl) ?_
  subst hml
  refine zAf (fun K2 g4 => (zAb (zBi rfl rfl (zAd (zAc (g4 _ _ (zAf (fun K4 g5 => (zAf (fun K6 g6 => (zAb (w_p (zAx rfl rfl) rfl ?_))))))))))))
  refine w_p (zBc underlying51 rfl rfl) rfl (w_p (zBy (v := _) rfl rfl) rfl (zAd (zAc (g6 _ _ (zAq ?_)))))
  refine zB6 [4,5,8,9,10,11,12,13,14,15,16,17,18] [8] (fun kk vs w => ∃ i : Nat, vs = [.int .i64 (i : Int)] ∧ i ≤ l.length ∧ kk = l.length - i ∧ St w0 w F) (l.length) ?_ ?_
  ·
   exact ⟨0, rfl, by omega, by omega, hs⟩
  intro k vs μ w9 hI K8 g7
  obtain ⟨i, rfl, hia, rfl, hs⟩ := hI
  refine zAf (fun gf g8 => (zAb (w_p (zCp rfl rfl rfl rfl) rfl (zAd (zAc (g8 _ _ (zAf (fun gg g9 => (zAr rfl rfl (fun g3 => ?_) (fun g3 => ?_))))))))))
  ·
   try simp only [zS] at g3
   refine zAn (zAc (g9 _ _ (zAf (fun gh ga => (zAq ?_)))))
   refine zAf (fun gi gc => (zAb (zA6 rfl rfl (zBw rfl rfl (zAd (zAc (gc _ _ (zAf (fun gj gd => ?_)))))))))
   have hi2 : i < l.length := by omega
   obtain ⟨bx, ox, hbx, _, hx⟩ := ha.at (i := i) (row := [.string l[i]]) (by simp [srows, hi2])
   subst hbx
   have hnx := hne _ (List.getElem_mem hi2)
   refine zAb (w_p (zBy (v := .string _) rfl rfl) rfl (w_p (zAx rfl rfl) rfl (zA6 rfl rfl (w_p (zA7 underlying51 sizeOf9 rfl rfl rfl rfl (i := _) rfl (by omega)) rfl (w_p (zAg isAgg9 hs rfl rfl hx) rfl ?_)))))
   refine w_p (y_strEq rfl rfl rfl rfl) rfl (zAd (zAc (gd _ _ (zAr rfl rfl (fun g0 => ?_) (fun g0 => ?_)))))
   ·
    exfalso
    try simp only [zS] at g0
    exact hnx g0
   try simp only [zS] at g0
   refine zAn (zAi (zAc (ga _ _ (zAb (w_p (zBo rfl rfl rfl rfl (by omega) (by omega)) rfl (zA6 rfl rfl (zAd (zAc (g7 _ _ (nxI (l.length - (i + 1)) (by omega) ?_))))))))))
   exact ⟨i + 1, rfl, by omega, rfl, hs⟩
  try simp only [zS] at g3
  refine zBt (zAj (zAj (zAv (zAc (g5 _ _ (zAf (fun gk ge => (zAb (zBi rfl rfl (zAd (zAc (ge _ _ (zA8 (zBa (l := [.tmp 4]) (vs := [_]) rfl ⟨⟨rfl, (rfl : _ = Value.int _ _)⟩, trivial⟩ ?_))))))))))))))
  exact ⟨rfl, hs⟩

theorem c97 {w0 w : World} {F : List (Nat × Obj)} (a : Option Addr) (n m : Nat) (l : List ByteArray) (hml : l.length = m) (hl : l.length ≤ 12) (ha : Sl w0 F a 1 (srows l)) (s : ByteArray) (hne : ∀ x ∈ l, ¬ s = x) (hs : St w0 w F) :
  Con Tryz.prog 97 [.slice a m n, .string s] w fun v w' => v = .bool false ∧ St w0 w' F := by
  refine zAo (n := 9) func97 rfl rfl (zNl rfl) ?_
  refine zAf (fun K2 g0 => (zAb (zBi rfl rfl (zAd (zAc (g0 _ _ (zAf (fun K4 g3 => (zAb (w_p (zAx rfl rfl) rfl (w_p (zBy (v := .string _) rfl rfl) rfl ?_)))))))))))
  refine zCo zAa call119 rfl rfl rfl rfl (c119 a n m l hml hl ha s hne hs) (fun w6 g4 => ?_)
  refine w_p (zGw rfl rfl rfl rfl) rfl (w_p (zAs rfl rfl) rfl (zAd (zAc (g3 _ _ (zA8 (zBa (l := [.tmp 4]) (vs := [_]) rfl ⟨⟨rfl, (rfl : _ = Value.bool _)⟩, trivial⟩ ?_))))))
  exact ⟨rfl, g4⟩

end Go.Proofs.Uc
set_option maxRecDepth 20000
namespace Go.Proofs.Uc
open Go.Proofs.Tryz
open Go.Rt Go.Rt.Cm
open Go.Rt.Ha (felt spanL upto zBv listL bit Bunch zB8 zCi zBx zB2 zCg zCf zBu)
attribute [local irreducible] WL WC Con Yd At Ats Sl Agree DW
theorem zEb (x0 : Int) (w : World) : (Instr.buildSlice 22 1 [(0, .int .i64 x0)].toArray).run Tryz.prog w = .ok (.slice (some ⟨w.heap.size, 0, none⟩) 1 1) (w.alloc (Go.Rt.blk 3 [.int .i64 x0])) := by kernel_rfl
theorem Try_LB_fb2 (x0 : Int) (x1 : Int) (w : World) : (Instr.buildSlice 22 2 [(0, .int .i64 x0),(1, .int .i64 x1)].toArray).run Tryz.prog w = .ok (.slice (some ⟨w.heap.size, 0, none⟩) 2 2) (w.alloc (Go.Rt.blk 3 [.int .i64 x0, .int .i64 x1])) := by kernel_rfl
structure FIn (w0 : World) (F : List (Nat × Obj)) (f : File) (p : AtF) : Prop where
  t : Sl w0 F p.ap 1 (srows f.parties)
  u : Sl w0 F p.au 1 (f.until_.map fun x => [Value.int .i64 x])
  l : Sl w0 F p.al 4 (lrows f p)
  r : ∀ i, i < f.lots.length → Sl w0 F (p.ar i) 1 ((lotAt f i).route.map fun x => [Value.int .i64 x])
  q : Sl w0 F p.aq 3 (prows f.paps)
  c : Sl w0 F p.ac 3 (crows f.clms)
  tc : f.parties.length ≤ p.cp
theorem FIn.mono {w0 : World} {F F' : List (Nat × Obj)} {f : File} {p : AtF} (h : FIn w0 F f p) (hs : ∀ w, St w0 w F' → St w0 w F) : FIn w0 F' f p := ⟨h.t.mono hs, h.u.mono hs, h.l.mono hs, fun i hi => (h.r i hi).mono hs, h.q.mono hs, h.c.mono hs, h.tc⟩
theorem FIn.cons {w0 : World} {F : List (Nat × Obj)} {x : Nat × Obj} {f : File} {p : AtF} (h : FIn w0 F f p) : FIn w0 (x :: F) f p := h.mono fun _ h => h.tail
theorem FIn.app {w0 : World} {F B : List (Nat × Obj)} {f : File} {p : AtF} (h : FIn w0 F f p) : FIn w0 (B ++ F) f p := h.mono fun _ h => h.drop
theorem sl_str {w0 : World} {F : List (Nat × Obj)} {a : Option Addr} {l : List ByteArray} {i : Nat} (h : Sl w0 F a 1 (srows l)) (hi : i < l.length) : ∃ b off, a = some ⟨b, off, none⟩ ∧ Ats w0 F b (off + i * 1) [.string l[i]] := by
  obtain ⟨b, off, ha, _, hat⟩ := h.at (i := i) (row := [.string l[i]]) (by simp [srows, hi])
  exact ⟨b, off, ha, hat⟩
theorem sl_lot {w0 : World} {F : List (Nat × Obj)} {f : File} {p : AtF} {i : Nat} (h : FIn w0 F f p) (hi : i < f.lots.length) : ∃ b off, p.al = some ⟨b, off, none⟩ ∧ Ats w0 F b (off + i * 4) ((lotAt f i).cells (p.ar i) (p.cr i)) := by
  obtain ⟨b, off, ha, _, hat⟩ := h.l.at (i := i) (row := (lotAt f i).cells (p.ar i) (p.cr i)) (lrow_at hi)
  exact ⟨b, off, ha, hat⟩
theorem sl_pap {w0 : World} {F : List (Nat × Obj)} {a : Option Addr} {l : List Pap} {i : Nat} (h : Sl w0 F a 3 (prows l)) (hi : i < l.length) : ∃ b off, a = some ⟨b, off, none⟩ ∧ Ats w0 F b (off + i * 3) l[i].cells := by
  obtain ⟨b, off, ha, _, hat⟩ := h.at (i := i) (row := l[i].cells) (by simp [prows, hi])
  exact ⟨b, off, ha, hat⟩
theorem sl_clm {w0 : World} {F : List (Nat × Obj)} {a : Option Addr} {l : List Clm} {i : Nat} (h : Sl w0 F a 3 (crows l)) (hi : i < l.length) : ∃ b off, a = some ⟨b, off, none⟩ ∧ Ats w0 F b (off + i * 3) l[i].cells := by
  obtain ⟨b, off, ha, _, hat⟩ := h.at (i := i) (row := l[i].cells) (by simp [crows, hi])
  exact ⟨b, off, ha, hat⟩
theorem ats_of {w0 w : World} {L : List (Nat × Obj)} {i b : Nat} {t : TypeId} {cs vs : List Value} (hs : St w0 w L) (hi : L[i]? = some (b, blk t cs)) (h : (cs.drop 0).take vs.length = vs) : Ats w0 L b 0 vs := zB9 hi h
theorem idx_in {z : Int} : ∀ {l : List Int} {i : Int}, 0 ≤ i → z ∈ l → 0 ≤ idxI l z i
  | x :: l, i, h, hm => by
    rw [idxI]
    split
    · exact h
    · rename_i hne
      rcases List.mem_cons.1 hm with h2 | h2
      · exact absurd h2.symm hne
      · exact idx_in (by omega) h2
theorem part_str {w0 : World} {F : List (Nat × Obj)} {a : Option Addr} {l : List ByteArray} {i c : Nat} (h : Sl w0 F a 1 (srows l)) (hi : i ≤ l.length) (hc : l.length ≤ c) : Sl w0 F (if c = 0 then a else a.map (·.add (0 * 1))) 1 (srows (l.take i)) := by
  have h2 := h.cut (l' := 0) (h' := i) (c := c) (by omega) (by simpa [srows] using hi) (by simpa [srows] using hc)
  rw [List.drop_zero, Nat.sub_zero] at h2
  unfold srows at h2 ⊢
  rw [List.map_take]; exact h2
theorem nd_take {l : List ByteArray} (h : l.Nodup) {i : Nat} (hi : i < l.length) : ∀ x ∈ l.take i, ¬ l[i] = x := by
  intro x hx e
  have h2 : (l.take i ++ l.drop i).Nodup := by rw [List.take_append_drop]; exact h
  exact (List.nodup_append.1 h2).2.2 _ hx l[i] (by rw [List.drop_eq_getElem_cons hi]; exact .head _) e.symm
theorem c94 {w0 w : World} {F : List (Nat × Obj)} (f : File) (p : AtF) (hm : FIn w0 F f p) (hlm : f.parties.length ≤ 4) (fv : Value)
    (hp : ∀ (i : Nat) (hi : i < f.parties.length) (X : List (Nat × Obj)) (w : World), St w0 w (X ++ F) → FCon Tryz.prog fv [.int .i64 (i : Int), .string f.parties[i]] w fun v w' => v = .int .i64 0 ∧ St w0 w' (X ++ F)) (hs : St w0 w F) :
  Con Tryz.prog 94 [.slice p.ap f.parties.length p.cp, .int .i64 4, fv] w fun v w' => v = .tuple #[.int .i64 0, .int .i64 0] ∧ St w0 w' F := by
  refine zAo (n := 31) func94 rfl rfl (zNl rfl) ?_
  refine zAf (fun K2 g3 => (zAb (zBi rfl rfl (zBi rfl rfl (zAd (zAc (g3 _ _ (zAf (fun K4 g4 => (zAf (fun K6 g5 => (zAb (w_p (zAx rfl rfl) rfl ?_)))))))))))))
  refine w_p (zBc underlying51 rfl rfl) rfl (zA6 rfl rfl (w_p (zEf rfl rfl rfl rfl) rfl (zAd (zAc (g5 _ _ (zAr rfl rfl (fun h7 => ?_) (fun h7 => ?_)))))))
  ·
   exfalso
   try simp only [zS] at h7
   omega
  try simp only [zS] at h7
  refine zAn (zAc (g4 _ _ (zAf (fun K9 g6 => (zAf (fun gi g7 => (zAb (w_p (zAx rfl rfl) rfl (w_p (zBc underlying51 rfl rfl) rfl (w_p (zBy (v := _) rfl rfl) rfl ?_))))))))))
  refine zAd (zAc (g7 _ _ (zAq ?_)))
  refine zB6 [6,7,8,9,10,17,18,19,20,21,22,23,24,25,26,27,28,29,30] [17] (fun k vs w => ∃ (i : Nat), vs = [.int .i64 (i : Int)] ∧ i ≤ f.parties.length ∧ k = f.parties.length - i ∧ St w0 w F) (f.parties.length) ?_ ?_
  ·
   exact ⟨0, rfl, by omega, by omega, hs⟩
  intro k vs μ gj hI gk g8
  obtain ⟨i, rfl, hia, rfl, hs⟩ := hI
  refine zAf (fun gm g9 => (zAb (w_p (zCp rfl rfl rfl rfl) rfl (zAd (zAc (g9 _ _ (zAf (fun gn ga => (zAr rfl rfl (fun g0 => ?_) (fun g0 => ?_))))))))))
  ·
   try simp only [zS] at g0
   refine zAn (zAc (ga _ _ (zAf (fun go gc => (zAq ?_)))))
   refine zAf (fun gp gd => ?_)
   have hi2 : i < f.parties.length := by omega
   obtain ⟨bx, ox, hbx, hx⟩ := sl_str hm.t hi2
   refine zAb (zA6 rfl rfl (w_p (zA7 underlying51 sizeOf9 rfl rfl (Eq.trans (show _ = Value.slice p.ap f.parties.length p.cp from rfl) (by rw [hbx])) rfl (b := bx) (off := ox) (i := i) rfl hi2) rfl ?_))
   refine w_p (zAg isAgg9 hs rfl rfl hx) rfl (zBw rfl rfl (w_p (zCu (v := .string _) rfl rfl) rfl (zAd (zAc (gd _ _ (zAf (fun gq ge => (zAb (w_p (zBy (v := fv) rfl rfl) rfl ?_)))))))))
   refine zA6 rfl rfl (w_p (zBy (v := .string _) rfl rfl) rfl (zD0 zAa rfl rfl rfl rfl (hp i hi2 [] _ hs) ?_))
   rintro _ gt ⟨rfl, gf⟩
   refine zBw rfl rfl (zAd (zAc (ge _ _ (zAf (fun gu gg => (zAb (zA6 rfl rfl (w_p (zCs rfl rfl rfl rfl) rfl (zAd (zAc (gg _ _ (zBs rfl rfl ?_))))))))))))
   refine zAn (zAi (zAc (gc _ _ (zAb (w_p (zBo rfl rfl rfl rfl (by omega) (by omega)) rfl (zA6 rfl rfl (zAd (zAc (g8 _ _ (nxI (f.parties.length - (i + 1)) (by omega) ?_))))))))))
   exact ⟨i + 1, rfl, by omega, rfl, gf⟩
  try simp only [zS] at g0
  refine zBt (zAj (zAj (zAv (zAc (g6 _ _ (zAf (fun gv gh => (zAb (zBi rfl rfl (zBi rfl rfl (zAd (zAc (gh _ _ (zA8 (zBa (l := [.tmp 6, .tmp 7]) (vs := [_,_]) rfl ⟨⟨rfl, (rfl : _ = Value.int _ _)⟩, ⟨rfl, (rfl : _ = Value.int _ _)⟩, trivial⟩ ?_)))))))))))))))
  exact ⟨rfl, hs⟩

theorem c98 {w0 w : World} {F : List (Nat × Obj)} (f : File) (p : AtF) (hm : FIn w0 F f p) (hlm : f.until_.length ≤ 4) (fv : Value)
    (hp : ∀ (i : Nat) (hi : i < f.until_.length) (X : List (Nat × Obj)) (w : World), St w0 w (X ++ F) → FCon Tryz.prog fv [.int .i64 (i : Int), .int .i64 f.until_[i]] w fun v w' => v = .int .i64 0 ∧ St w0 w' (X ++ F)) (hs : St w0 w F) :
  Con Tryz.prog 98 [.slice p.au f.until_.length p.cu, .int .i64 4, fv] w fun v w' => v = .tuple #[.int .i64 0, .int .i64 0] ∧ St w0 w' F := by
  refine zAo (n := 31) func98 rfl rfl (zNl rfl) ?_
  refine zAf (fun K2 g3 => (zAb (zBi rfl rfl (zBi rfl rfl (zAd (zAc (g3 _ _ (zAf (fun K4 g4 => (zAf (fun K6 g5 => (zAb (w_p (zAx rfl rfl) rfl ?_)))))))))))))
  refine w_p (zBc underlying22 rfl rfl) rfl (zA6 rfl rfl (w_p (zEf rfl rfl rfl rfl) rfl (zAd (zAc (g5 _ _ (zAr rfl rfl (fun h7 => ?_) (fun h7 => ?_)))))))
  ·
   exfalso
   try simp only [zS] at h7
   omega
  try simp only [zS] at h7
  refine zAn (zAc (g4 _ _ (zAf (fun K9 g6 => (zAf (fun gi g7 => (zAb (w_p (zAx rfl rfl) rfl (w_p (zBc underlying22 rfl rfl) rfl (w_p (zBy (v := _) rfl rfl) rfl ?_))))))))))
  refine zAd (zAc (g7 _ _ (zAq ?_)))
  refine zB6 [6,7,8,9,10,17,18,19,20,21,22,23,24,25,26,27,28,29,30] [17] (fun k vs w => ∃ (i : Nat), vs = [.int .i64 (i : Int)] ∧ i ≤ f.until_.length ∧ k = f.until_.length - i ∧ St w0 w F) (f.until_.length) ?_ ?_
  ·
   exact ⟨0, rfl, by omega, by omega, hs⟩
  intro k vs μ gj hI gk g8
  obtain ⟨i, rfl, hia, rfl, hs⟩ := hI
  refine zAf (fun gm g9 => (zAb (w_p (zCp rfl rfl rfl rfl) rfl (zAd (zAc (g9 _ _ (zAf (fun gn ga => (zAr rfl rfl (fun g0 => ?_) (fun g0 => ?_))))))))))
  ·
   try simp only [zS] at g0
   refine zAn (zAc (ga _ _ (zAf (fun go gc => (zAq ?_)))))
   refine zAf (fun gp gd => ?_)
   have hi2 : i < f.until_.length := by omega
   obtain ⟨bx, ox, hbx, hx⟩ := zCx hm.u hi2
   refine zAb (zA6 rfl rfl (w_p (zA7 underlying22 sizeOf3 rfl rfl (Eq.trans (show _ = Value.slice p.au f.until_.length p.cu from rfl) (by rw [hbx])) rfl (b := bx) (off := ox) (i := i) rfl hi2) rfl ?_))
   refine w_p (zAg isAgg3 hs rfl rfl hx) rfl (zBw rfl rfl (zBw rfl rfl (zAd (zAc (gd _ _ (zAf (fun gq ge => (zAb (w_p (zBy (v := fv) rfl rfl) rfl ?_)))))))))
   refine zA6 rfl rfl (zA6 rfl rfl (zD0 zAa rfl rfl rfl rfl (hp i hi2 [] _ hs) ?_))
   rintro _ gt ⟨rfl, gf⟩
   refine zBw rfl rfl (zAd (zAc (ge _ _ (zAf (fun gu gg => (zAb (zA6 rfl rfl (w_p (zCs rfl rfl rfl rfl) rfl (zAd (zAc (gg _ _ (zBs rfl rfl ?_))))))))))))
   refine zAn (zAi (zAc (gc _ _ (zAb (w_p (zBo rfl rfl rfl rfl (by omega) (by omega)) rfl (zA6 rfl rfl (zAd (zAc (g8 _ _ (nxI (f.until_.length - (i + 1)) (by omega) ?_))))))))))
   exact ⟨i + 1, rfl, by omega, rfl, gf⟩
  try simp only [zS] at g0
  refine zBt (zAj (zAj (zAv (zAc (g6 _ _ (zAf (fun gv gh => (zAb (zBi rfl rfl (zBi rfl rfl (zAd (zAc (gh _ _ (zA8 (zBa (l := [.tmp 6, .tmp 7]) (vs := [_,_]) rfl ⟨⟨rfl, (rfl : _ = Value.int _ _)⟩, ⟨rfl, (rfl : _ = Value.int _ _)⟩, trivial⟩ ?_)))))))))))))))
  exact ⟨rfl, hs⟩

theorem c100 {w0 w : World} {F : List (Nat × Obj)} (f : File) (p : AtF) (hm : FIn w0 F f p) (hlm : f.lots.length ≤ 4) (fv : Value)
    (hp : ∀ (i : Nat) (hi : i < f.lots.length) (X : List (Nat × Obj)) (w : World), St w0 w (X ++ F) → FCon Tryz.prog fv [.int .i64 (i : Int), .agg ((lotAt f i).cells (p.ar i) (p.cr i)).toArray] w fun v w' => v = .int .i64 0 ∧ St w0 w' (X ++ F)) (hs : St w0 w F) :
  Con Tryz.prog 100 [.slice p.al f.lots.length p.cl, .int .i64 4, fv] w fun v w' => v = .tuple #[.int .i64 0, .int .i64 0] ∧ St w0 w' F := by
  refine zAo (n := 31) func100 rfl rfl (zNl rfl) ?_
  refine zAf (fun K2 g4 => (zAb (zBi rfl rfl (zBi rfl rfl (zAd (zAc (g4 _ _ (zAf (fun K4 g5 => (zAf (fun K6 g6 => (zAb (w_p (zAx rfl rfl) rfl ?_)))))))))))))
  refine w_p (zBc underlying52 rfl rfl) rfl (zA6 rfl rfl (w_p (zEf rfl rfl rfl rfl) rfl (zAd (zAc (g6 _ _ (zAr rfl rfl (fun h7 => ?_) (fun h7 => ?_)))))))
  ·
   exfalso
   try simp only [zS] at h7
   omega
  try simp only [zS] at h7
  refine zAn (zAc (g5 _ _ (zAf (fun K9 g7 => (zAf (fun gk g8 => (zAb (w_p (zAx rfl rfl) rfl (w_p (zBc underlying52 rfl rfl) rfl (w_p (zBy (v := _) rfl rfl) rfl ?_))))))))))
  refine zAd (zAc (g8 _ _ (zAq ?_)))
  refine zB6 [6,7,8,9,10,17,18,19,20,21,22,23,24,25,26,27,28,29,30] [17] (fun k vs w => ∃ (i : Nat), vs = [.int .i64 (i : Int)] ∧ i ≤ f.lots.length ∧ k = f.lots.length - i ∧ St w0 w F) (f.lots.length) ?_ ?_
  ·
   exact ⟨0, rfl, by omega, by omega, hs⟩
  intro k vs μ gm hI gn g9
  obtain ⟨i, rfl, hia, rfl, hs⟩ := hI
  refine zAf (fun go ga => (zAb (w_p (zCp rfl rfl rfl rfl) rfl (zAd (zAc (ga _ _ (zAf (fun gp gc => (zAr rfl rfl (fun g0 => ?_) (fun g0 => ?_))))))))))
  ·
   try simp only [zS] at g0
   refine zAn (zAc (gc _ _ (zAf (fun gq gd => (zAq ?_)))))
   refine zAf (fun gt ge => ?_)
   have hi2 : i < f.lots.length := by omega
   obtain ⟨bx, ox, hbx, hx⟩ := sl_lot hm hi2
   refine zAb (zA6 rfl rfl (w_p (zA7 underlying52 sizeOf100 rfl rfl (Eq.trans (show _ = Value.slice p.al f.lots.length p.cl from rfl) (by rw [hbx])) rfl (b := bx) (off := ox) (i := i) rfl hi2) rfl ?_))
   refine w_p (zA2 (vs := [_,_,_,_]) isAgg100 sizeOf100 hs rfl rfl hx) rfl (zA1 (cs := [_,_,_,_]) zAa zeroValue100 rfl hs (fun gu gv gf => ?_))
   refine zBw rfl rfl (zBj 0 (.agg #[.slice _ _ _, .int _ _, .int _ _, .int _ _]) [_,_,_,_] sizeOf100 gf (fun gw g3 => ?_))
   refine zAd (zAc (ge _ _ (zAf (fun gx gg => (zAb (w_p (zBy (v := fv) rfl rfl) rfl (zA6 rfl rfl (w_p (zA2 (vs := [_,_,_,_]) isAgg100 sizeOf100 g3 rfl rfl (aow 0 [_,_,_,_])) rfl ?_))))))))
   refine zD0 zAa rfl rfl rfl rfl (hp i hi2 [_] _ g3) ?_
   rintro _ gy ⟨rfl, gh⟩
   refine zBw rfl rfl (zAd (zAc (gg _ _ (zAf (fun gz gi => (zAb (zA6 rfl rfl (w_p (zCs rfl rfl rfl rfl) rfl (zAd (zAc (gi _ _ (zBs rfl rfl ?_))))))))))))
   refine zAn (zAi (zAc (gd _ _ (zAb (w_p (zBo rfl rfl rfl rfl (by omega) (by omega)) rfl (zA6 rfl rfl (zAd (zAc (g9 _ _ (nxI (f.lots.length - (i + 1)) (by omega) ?_))))))))))
   exact ⟨i + 1, rfl, by omega, rfl, gh.tail⟩
  try simp only [zS] at g0
  refine zBt (zAj (zAj (zAv (zAc (g7 _ _ (zAf (fun gA gj => (zAb (zBi rfl rfl (zBi rfl rfl (zAd (zAc (gj _ _ (zA8 (zBa (l := [.tmp 6, .tmp 7]) (vs := [_,_]) rfl ⟨⟨rfl, (rfl : _ = Value.int _ _)⟩, ⟨rfl, (rfl : _ = Value.int _ _)⟩, trivial⟩ ?_)))))))))))))))
  exact ⟨rfl, hs⟩

theorem c105 {w0 w : World} {F : List (Nat × Obj)} (f : File) (p : AtF) (hm : FIn w0 F f p) (hlm : f.paps.length ≤ 5) (fv : Value)
    (hp : ∀ (i : Nat) (hi : i < f.paps.length) (X : List (Nat × Obj)) (w : World), St w0 w (X ++ F) → FCon Tryz.prog fv [.int .i64 (i : Int), .agg f.paps[i].cells.toArray] w fun v w' => v = .int .i64 0 ∧ St w0 w' (X ++ F)) (hs : St w0 w F) :
  Con Tryz.prog 105 [.slice p.aq f.paps.length p.cq, .int .i64 5, fv] w fun v w' => v = .tuple #[.int .i64 0, .int .i64 0] ∧ St w0 w' F := by
  refine zAo (n := 31) func105 rfl rfl (zNl rfl) ?_
  refine zAf (fun K2 g4 => (zAb (zBi rfl rfl (zBi rfl rfl (zAd (zAc (g4 _ _ (zAf (fun K4 g5 => (zAf (fun K6 g6 => (zAb (w_p (zAx rfl rfl) rfl ?_)))))))))))))
  refine w_p (zBc underlying53 rfl rfl) rfl (zA6 rfl rfl (w_p (zEf rfl rfl rfl rfl) rfl (zAd (zAc (g6 _ _ (zAr rfl rfl (fun h7 => ?_) (fun h7 => ?_)))))))
  ·
   exfalso
   try simp only [zS] at h7
   omega
  try simp only [zS] at h7
  refine zAn (zAc (g5 _ _ (zAf (fun K9 g7 => (zAf (fun gk g8 => (zAb (w_p (zAx rfl rfl) rfl (w_p (zBc underlying53 rfl rfl) rfl (w_p (zBy (v := _) rfl rfl) rfl ?_))))))))))
  refine zAd (zAc (g8 _ _ (zAq ?_)))
  refine zB6 [6,7,8,9,10,17,18,19,20,21,22,23,24,25,26,27,28,29,30] [17] (fun k vs w => ∃ (i : Nat), vs = [.int .i64 (i : Int)] ∧ i ≤ f.paps.length ∧ k = f.paps.length - i ∧ St w0 w F) (f.paps.length) ?_ ?_
  ·
   exact ⟨0, rfl, by omega, by omega, hs⟩
  intro k vs μ gm hI gn g9
  obtain ⟨i, rfl, hia, rfl, hs⟩ := hI
  refine zAf (fun go ga => (zAb (w_p (zCp rfl rfl rfl rfl) rfl (zAd (zAc (ga _ _ (zAf (fun gp gc => (zAr rfl rfl (fun g0 => ?_) (fun g0 => ?_))))))))))
  ·
   try simp only [zS] at g0
   refine zAn (zAc (gc _ _ (zAf (fun gq gd => (zAq ?_)))))
   refine zAf (fun gt ge => ?_)
   have hi2 : i < f.paps.length := by omega
   obtain ⟨bx, ox, hbx, hx⟩ := sl_pap hm.q hi2
   refine zAb (zA6 rfl rfl (w_p (zA7 underlying53 sizeOf113 rfl rfl (Eq.trans (show _ = Value.slice p.aq f.paps.length p.cq from rfl) (by rw [hbx])) rfl (b := bx) (off := ox) (i := i) rfl hi2) rfl ?_))
   refine w_p (zA2 (vs := [_,_,_]) isAgg113 sizeOf113 hs rfl rfl hx) rfl (zA1 (cs := [_,_,_]) zAa zeroValue113 rfl hs (fun gu gv gf => ?_))
   refine zBw rfl rfl (zBj 0 (.agg #[.int _ _, .int _ _, .int _ _]) [_,_,_] sizeOf113 gf (fun gw g3 => ?_))
   refine zAd (zAc (ge _ _ (zAf (fun gx gg => (zAb (w_p (zBy (v := fv) rfl rfl) rfl (zA6 rfl rfl (w_p (zA2 (vs := [_,_,_]) isAgg113 sizeOf113 g3 rfl rfl (aow 0 [_,_,_])) rfl ?_))))))))
   refine zD0 zAa rfl rfl rfl rfl (hp i hi2 [_] _ g3) ?_
   rintro _ gy ⟨rfl, gh⟩
   refine zBw rfl rfl (zAd (zAc (gg _ _ (zAf (fun gz gi => (zAb (zA6 rfl rfl (w_p (zCs rfl rfl rfl rfl) rfl (zAd (zAc (gi _ _ (zBs rfl rfl ?_))))))))))))
   refine zAn (zAi (zAc (gd _ _ (zAb (w_p (zBo rfl rfl rfl rfl (by omega) (by omega)) rfl (zA6 rfl rfl (zAd (zAc (g9 _ _ (nxI (f.paps.length - (i + 1)) (by omega) ?_))))))))))
   exact ⟨i + 1, rfl, by omega, rfl, gh.tail⟩
  try simp only [zS] at g0
  refine zBt (zAj (zAj (zAv (zAc (g7 _ _ (zAf (fun gA gj => (zAb (zBi rfl rfl (zBi rfl rfl (zAd (zAc (gj _ _ (zA8 (zBa (l := [.tmp 6, .tmp 7]) (vs := [_,_]) rfl ⟨⟨rfl, (rfl : _ = Value.int _ _)⟩, ⟨rfl, (rfl : _ = Value.int _ _)⟩, trivial⟩ ?_)))))))))))))))
  exact ⟨rfl, hs⟩

theorem c108 {w0 w : World} {F : List (Nat × Obj)} (f : File) (p : AtF) (hm : FIn w0 F f p) (hlm : f.clms.length ≤ 5) (fv : Value)
    (hp : ∀ (i : Nat) (hi : i < f.clms.length) (X : List (Nat × Obj)) (w : World), St w0 w (X ++ F) → FCon Tryz.prog fv [.int .i64 (i : Int), .agg f.clms[i].cells.toArray] w fun v w' => v = .int .i64 0 ∧ St w0 w' (X ++ F)) (hs : St w0 w F) :
  Con Tryz.prog 108 [.slice p.ac f.clms.length p.cc, .int .i64 5, fv] w fun v w' => v = .tuple #[.int .i64 0, .int .i64 0] ∧ St w0 w' F := by
  refine zAo (n := 31) func108 rfl rfl (zNl rfl) ?_
  refine zAf (fun K2 g4 => (zAb (zBi rfl rfl (zBi rfl rfl (zAd (zAc (g4 _ _ (zAf (fun K4 g5 => (zAf (fun K6 g6 => (zAb (w_p (zAx rfl rfl) rfl ?_)))))))))))))
  refine w_p (zBc underlying54 rfl rfl) rfl (zA6 rfl rfl (w_p (zEf rfl rfl rfl rfl) rfl (zAd (zAc (g6 _ _ (zAr rfl rfl (fun h7 => ?_) (fun h7 => ?_)))))))
  ·
   exfalso
   try simp only [zS] at h7
   omega
  try simp only [zS] at h7
  refine zAn (zAc (g5 _ _ (zAf (fun K9 g7 => (zAf (fun gk g8 => (zAb (w_p (zAx rfl rfl) rfl (w_p (zBc underlying54 rfl rfl) rfl (w_p (zBy (v := _) rfl rfl) rfl ?_))))))))))
  refine zAd (zAc (g8 _ _ (zAq ?_)))
  refine zB6 [6,7,8,9,10,17,18,19,20,21,22,23,24,25,26,27,28,29,30] [17] (fun k vs w => ∃ (i : Nat), vs = [.int .i64 (i : Int)] ∧ i ≤ f.clms.length ∧ k = f.clms.length - i ∧ St w0 w F) (f.clms.length) ?_ ?_
  ·
   exact ⟨0, rfl, by omega, by omega, hs⟩
  intro k vs μ gm hI gn g9
  obtain ⟨i, rfl, hia, rfl, hs⟩ := hI
  refine zAf (fun go ga => (zAb (w_p (zCp rfl rfl rfl rfl) rfl (zAd (zAc (ga _ _ (zAf (fun gp gc => (zAr rfl rfl (fun g0 => ?_) (fun g0 => ?_))))))))))
  ·
   try simp only [zS] at g0
   refine zAn (zAc (gc _ _ (zAf (fun gq gd => (zAq ?_)))))
   refine zAf (fun gt ge => ?_)
   have hi2 : i < f.clms.length := by omega
   obtain ⟨bx, ox, hbx, hx⟩ := sl_clm hm.c hi2
   refine zAb (zA6 rfl rfl (w_p (zA7 underlying54 sizeOf102 rfl rfl (Eq.trans (show _ = Value.slice p.ac f.clms.length p.cc from rfl) (by rw [hbx])) rfl (b := bx) (off := ox) (i := i) rfl hi2) rfl ?_))
   refine w_p (zA2 (vs := [_,_,_]) isAgg102 sizeOf102 hs rfl rfl hx) rfl (zA1 (cs := [_,_,_]) zAa zeroValue102 rfl hs (fun gu gv gf => ?_))
   refine zBw rfl rfl (zBj 0 (.agg #[.int _ _, .int _ _, .int _ _]) [_,_,_] sizeOf102 gf (fun gw g3 => ?_))
   refine zAd (zAc (ge _ _ (zAf (fun gx gg => (zAb (w_p (zBy (v := fv) rfl rfl) rfl (zA6 rfl rfl (w_p (zA2 (vs := [_,_,_]) isAgg102 sizeOf102 g3 rfl rfl (aow 0 [_,_,_])) rfl ?_))))))))
   refine zD0 zAa rfl rfl rfl rfl (hp i hi2 [_] _ g3) ?_
   rintro _ gy ⟨rfl, gh⟩
   refine zBw rfl rfl (zAd (zAc (gg _ _ (zAf (fun gz gi => (zAb (zA6 rfl rfl (w_p (zCs rfl rfl rfl rfl) rfl (zAd (zAc (gi _ _ (zBs rfl rfl ?_))))))))))))
   refine zAn (zAi (zAc (gd _ _ (zAb (w_p (zBo rfl rfl rfl rfl (by omega) (by omega)) rfl (zA6 rfl rfl (zAd (zAc (g9 _ _ (nxI (f.clms.length - (i + 1)) (by omega) ?_))))))))))
   exact ⟨i + 1, rfl, by omega, rfl, gh.tail⟩
  try simp only [zS] at g0
  refine zBt (zAj (zAj (zAv (zAc (g7 _ _ (zAf (fun gA gj => (zAb (zBi rfl rfl (zBi rfl rfl (zAd (zAc (gj _ _ (zA8 (zBa (l := [.tmp 6, .tmp 7]) (vs := [_,_]) rfl ⟨⟨rfl, (rfl : _ = Value.int _ _)⟩, ⟨rfl, (rfl : _ = Value.int _ _)⟩, trivial⟩ ?_)))))))))))))))
  exact ⟨rfl, hs⟩

theorem c95 {w0 w : World} {F : List (Nat × Obj)} (f : File) (p : AtF) (hm : FIn w0 F f p) (hf : f.Ok) (bm : Nat) (hb : Ats w0 F bm 0 (f.cells p)) (i : Nat) (hi : i < f.parties.length) (hs : St w0 w F) :
  Con Tryz.prog 95 [.int .i64 (i : Int), .string f.parties[i], .pointer (some ⟨bm, 0, none⟩)] w fun v w' => v = .int .i64 0 ∧ St w0 w' F := by
  refine zAo (n := 17) func95 rfl rfl (zNl rfl) ?_
  have hnp := hf.np
  have htc := hm.tc
  have hnm := hf.nm _ (List.getElem_mem hi)
  refine zAf (fun K2 g3 => (zAb (zBi rfl rfl (zAd (zAc (g3 _ _ (zAf (fun K4 g4 => (zAq ?_)))))))))
  refine zAf (fun K6 g5 => (zAb (w_p (zBy (v := .string _) rfl rfl) rfl (zCo zAa call96 rfl rfl rfl rfl ((c96 f.parties[i] (by omega) hs).mono (fun v w2 h => by rw [hnm.1] at h; exact h)) (fun w8 g0 => ?_)))))
  refine w_p (zDo rfl rfl) rfl (w_p (zAs rfl rfl) rfl (zAd (zAc (g5 _ _ (zBs rfl rfl ?_)))))
  refine zAf (fun g9 g6 => (zAb (w_p (zAe (o := 0) (i := 0) underlying56 rfl sizeOf51 rfl rfl rfl) rfl (w_p (zAg isAgg51 g0 rfl rfl (show Ats _ _ _ _ [_] from Ats.part hb 0 1)) rfl (zA6 rfl rfl (w_p (zIz (l' := 0) (h' := i) underlying51 sizeOf9 rfl rfl rfl ⟨rfl, _,_, rfl, rfl⟩ (by omega) (by omega)) rfl ?_))))))
  refine w_p (zBy (v := .string _) rfl rfl) rfl (zCo zAa call97 rfl rfl rfl rfl (c97 _ _ _ (f.parties.take i) (by rw [List.length_take]; omega) (by rw [List.length_take]; omega) (part_str hm.t (by omega) hm.tc) _ (nd_take hf.tw hi) g0) (fun ga g7 => ?_))
  refine w_p (zAs rfl rfl) rfl (zAd (zAc (g6 _ _ (zBs rfl rfl ?_))))
  refine zAn (zAi (zAc (g4 _ _ (zAf (fun gc g8 => (zAb (zBi rfl rfl (zAd (zAc (g8 _ _ (zA8 (zBa (l := [.tmp 5]) (vs := [_]) rfl ⟨⟨rfl, (rfl : _ = Value.int _ _)⟩, trivial⟩ ?_))))))))))))
  exact ⟨rfl, g7⟩

theorem c99 {w0 w : World} {F : List (Nat × Obj)} (i : Nat) (z : Int) (hz : 0 ≤ z ∧ z ≤ 60) (hs : St w0 w F) :
  Con Tryz.prog 99 [.int .i64 (i : Int), .int .i64 z] w fun v w' => v = .int .i64 0 ∧ St w0 w' F := by
  refine zAo (n := 8) func99 rfl rfl (zNl rfl) ?_
  refine zAf (fun K2 g3 => (zAb (zBi rfl rfl (zAd (zAc (g3 _ _ (zAf (fun K4 g4 => (zAf (fun K6 g5 => (zAb (zA6 rfl rfl (zAu (ps := [(0, _)]) (pv := [(0, .int _ _)]) (cs := [_]) zAa rfl rfl (fun w => zEb _ w) hs (fun b7 w8 g6 => ?_))))))))))))))
  refine zCo zAa call73 rfl rfl rfl rfl (c73 _ _ _ [_] _ (by simp) (zBb (i := 0) (rows := [[_]]) rfl (by simp) rfl) g6) (fun g9 g7 => ?_)
  refine zAd (zAc (g5 _ _ (zAr rfl rfl (fun g0 => ?_) (fun g0 => ?_))))
  ·
   exfalso
   try simp only [zS] at g0
   first
     | (simp [out] at g0; omega)
     | (simp [out] at g0)
  try simp only [zS] at g0
  refine zAn (zAc (g4 _ _ (zAf (fun ga g8 => (zAb (zBi rfl rfl (zAd (zAc (g8 _ _ (zA8 (zBa (l := [.tmp 4]) (vs := [_]) rfl ⟨⟨rfl, (rfl : _ = Value.int _ _)⟩, trivial⟩ ?_)))))))))))
  exact ⟨rfl, g7.tail⟩

theorem c101 {w0 w : World} {F : List (Nat × Obj)} (f : File) (p : AtF) (hm : FIn w0 F f p) (hf : f.Ok) (bm : Nat) (hb : Ats w0 F bm 0 (f.cells p)) (i : Nat) (hi : i < f.lots.length) (hs : St w0 w F) :
  Con Tryz.prog 101 [.int .i64 (i : Int), .agg ((lotAt f i).cells (p.ar i) (p.cr i)).toArray, .pointer (some ⟨bm, 0, none⟩)] w fun v w' => v = .int .i64 0 ∧ St w0 w' F := by
  refine zAo (n := 58) func101 rfl rfl (zNl rfl) ?_
  have hnp := hf.np
  have hx := zGc hf hi
  have hx1 := hx.len
  have hx2 := hx.turned
  have hx3 := hx.worth
  have hr := hm.r i hi
  refine zAf (fun K2 gg => (zAb (zCj (v := .agg #[.slice _ _ _, .int _ _, .int _ _, .int _ _]) (cs := [_,_,_,_]) zAa rfl rfl rfl hs (fun b3 w4 gc => ?_))))
  refine zBi rfl rfl (zAd (zAc (gg _ _ (zAf (fun K7 gh => (zAf (fun K9 gi => (zAb (w_p (zAe (o := 0) (i := 0) underlying100 rfl sizeOf22 rfl rfl rfl) rfl ?_)))))))))
  refine w_p (zAg isAgg22 gc rfl rfl (aow 0 [_])) rfl ?_
  refine zA4 zAa call103 rfl rfl rfl rfl (c103 _ _ _ gc) ?_
  rintro _ gy ⟨bq, rfl, gj⟩
  refine zA4 zAa call102 rfl rfl rfl rfl (c102 bq _ _ (lotAt f i).route hr.cons.cons (by omega) hx.asc (aow 0 [_]) gj) ?_
  rintro _ gz ⟨SB, hown, g7⟩
  replace g7 := (show St _ _ (SB ++ (_ :: _ :: F)) from g7)
  obtain ⟨a3, c3, rfl, hsl3⟩ := zHn (w0 := w0) hown F
  have gk := (show St _ _ (_ :: (SB ++ (F))) from St.pk [SB, [_], [_]] [2,0] g7)
  refine w_p (zBz rfl rfl) rfl (zAd (zAc (gi _ _ (zAq ?_))))
  refine zAf (fun gA gm => (zAb (w_p (zAx rfl rfl) rfl (w_p (zBc underlying22 rfl rfl) rfl (zAu (ps := [(0, _)]) (pv := [(0, .int _ _)]) (cs := [_]) zAa rfl rfl (fun w => zEb _ w) gk (fun gB gC gn => ?_))))))
  refine zCo zAa call73 rfl rfl rfl rfl (c73 _ _ _ [_] _ (by simp) (zBb (i := 0) (rows := [[_]]) rfl (by simp) rfl) gn) (fun gD gd => ?_)
  refine w_p (zAs rfl rfl) rfl (zAd (zAc (gm _ _ (zAr rfl rfl (fun g0 => ?_) (fun g0 => ?_)))))
  ·
   exfalso
   try simp only [zS] at g0
   first
     | (simp [out] at g0; omega)
     | (simp [out] at g0)
  try simp only [zS] at g0
  refine zAf (fun gE go => (zAb (w_p (zAe (o := 0) (i := 0) underlying56 rfl sizeOf51 rfl rfl rfl) rfl (w_p (zAg isAgg51 gd.tail.tail.drop rfl rfl (show Ats _ _ _ _ [_] from Ats.part hb 0 1)) rfl (w_p (zBc underlying51 rfl rfl) rfl (w_p (zFb rfl rfl rfl rfl (by omega) (by omega)) rfl ?_))))))
  refine w_p (zAx rfl rfl) rfl (zCo zAa call73 rfl rfl rfl rfl (c73 _ _ _ (lotAt f i).route _ (by omega) hsl3.cons.cons gd) (fun gF gp => ?_))
  refine w_p (zAs rfl rfl) rfl (zAd (zAc (go _ _ (zAr rfl rfl (fun g3 => ?_) (fun g3 => ?_)))))
  ·
   exfalso
   try simp only [zS] at g3
   rw [List.any_eq_true] at g3
   obtain ⟨z, hz, ho⟩ := g3
   have hzz := hx.inn z hz
   simp [out] at ho
   omega
  try simp only [zS] at g3
  refine zAf (fun gG gq => (zCq [] [(0,0),(3,0),(4,1),(5,0),(1,2),(2,0),(6,0),(7,0)] zB4 (zBk (by kernel_rfl)) gp (fun gH ge => ?_)))
  refine d_w rfl (fun _ => zAx rfl rfl) rfl (d_w rfl (fun _ => zAe (o := 0) (i := 0) underlying100 rfl sizeOf22 rfl rfl rfl) rfl ?_)
  refine zAz rfl zAa rfl ge (fun _ hq => (zAg isAgg22 hq rfl rfl (aow 1 [_]))) ?_
  refine d_w rfl (fun _ => zBc underlying22 rfl rfl) rfl ?_
  refine zBh rfl ?_
  refine zCo zAa call104 rfl rfl rfl rfl (c104 a3 c3 (lotAt f i).route hsl3.cons.cons (by omega) hx.asc ge) (fun gI g4 => ?_)
  refine zAd (qn ⟨g4, ?_⟩)
  refine d_w rfl (fun _ => zBc underlying22 rfl rfl) rfl (d_w rfl (fun _ => zCp rfl rfl rfl rfl) rfl (d_w rfl (fun _ => zAs rfl rfl) rfl ?_))
  refine zBm ?_
  refine zAc (gq _ _ (zAr rfl rfl (fun g8 => ?_) (fun g8 => ?_)))
  ·
   exfalso
   try simp only [zS] at g8
   omega
  try simp only [zS] at g8
  refine zAf (fun gJ gt => (zAb (w_p (zAe (o := 0) (i := 0) underlying100 rfl sizeOf22 rfl rfl rfl) rfl (w_p (zAg isAgg22 g4 rfl rfl (aow 1 [_])) rfl (w_p (zBc underlying22 rfl rfl) rfl (w_p (zFb rfl rfl rfl rfl (by omega) (by omega)) rfl ?_))))))
  refine w_p (zAe (o := 1) (i := 1) underlying100 rfl sizeOf36 rfl rfl rfl) rfl (w_p (zAe (o := 0) (i := 0) underlying36 rfl sizeOf3 rfl rfl rfl) rfl (w_p (zAg isAgg3 g4 rfl rfl (aow 1 [_])) rfl (w_p (zAe (o := 1) (i := 1) underlying100 rfl sizeOf36 rfl rfl rfl) rfl ?_)))
  refine w_p (zAe (o := 1) (i := 1) underlying36 rfl sizeOf3 rfl rfl rfl) rfl (w_p (zAg isAgg3 g4 rfl rfl (aow 1 [_])) rfl ?_)
  refine zAu (ps := [(0, _),(1, _)]) (pv := [(0, .int _ _),(1, .int _ _)]) (cs := [_,_]) zAa rfl rfl (fun w => Try_LB_fb2 _ _ w) g4 (fun gK gL gu => ?_)
  refine zCo zAa call73 rfl rfl rfl rfl (c73 _ _ _ [_,_] _ (by simp) (zBb (i := 0) (rows := [[_], [_]]) rfl (by simp) rfl) gu) (fun gM gf => ?_)
  refine w_p (zAt rfl rfl) rfl (zB5 (fun g5 => ?_) (fun g5 => ?_))
  ·
   exfalso
   try simp only [zS] at g5
   first
     | (simp [out] at g5; omega)
     | (simp [out] at g5)
  try simp only [zS] at g5
  refine w_y rfl rfl rfl (zAe (o := 3) (i := 2) underlying100 rfl sizeOf3 rfl rfl rfl) rfl ?_
  refine w_y rfl rfl rfl (zAg isAgg3 gf rfl rfl (aow 2 [_])) rfl ?_
  refine zAu (ps := [(0, _)]) (pv := [(0, .int _ _)]) (cs := [_]) (zAh rfl rfl rfl) rfl rfl (fun w => zEb _ w) gf (fun gN gO gv => ?_)
  refine zA4 (zAh rfl rfl rfl) call73 rfl rfl rfl rfl (c73 _ _ _ [_] _ (by simp) (zBb (i := 0) (rows := [[_]]) rfl (by simp) rfl) gv) ?_
  rintro _ gP ⟨rfl, g9⟩
  refine w_p (zBg (v := .bool _) rfl rfl rfl rfl) rfl (w_p (zAs rfl rfl) rfl (zAd (zAc (gt _ _ (zAr rfl rfl (fun g6 => ?_) (fun g6 => ?_))))))
  ·
   exfalso
   try simp only [zS] at g6
   first
     | (simp [out] at g6; omega)
     | (simp [out] at g6)
  try simp only [zS] at g6
  refine zAf (fun gQ gw => (zAb (w_p (zAe (o := 1) (i := 1) underlying100 rfl sizeOf36 rfl rfl rfl) rfl (w_p (zAe (o := 0) (i := 0) underlying36 rfl sizeOf3 rfl rfl rfl) rfl (w_p (zAg isAgg3 g9 rfl rfl (aow 3 [_])) rfl ?_)))))
  refine w_p (zAe (o := 1) (i := 1) underlying100 rfl sizeOf36 rfl rfl rfl) rfl (w_p (zAe (o := 1) (i := 1) underlying36 rfl sizeOf3 rfl rfl rfl) rfl (w_p (zAg isAgg3 g9 rfl rfl (aow 3 [_])) rfl (w_p (zEf rfl rfl rfl rfl) rfl ?_)))
  refine w_p (zAs rfl rfl) rfl (zAd (zAc (gw _ _ (zAr rfl rfl (fun ga => ?_) (fun ga => ?_)))))
  ·
   exfalso
   try simp only [zS] at ga
   omega
  try simp only [zS] at ga
  refine zAn (zAi (zAc (gh _ _ (zAf (fun gR gx => (zAb (zBi rfl rfl (zAd (zAc (gx _ _ (zA8 (zBa (l := [.tmp 5]) (vs := [_]) rfl ⟨⟨rfl, (rfl : _ = Value.int _ _)⟩, trivial⟩ ?_))))))))))))
  exact ⟨rfl, g9.tail.tail.tail.tail.drop⟩

theorem c106 {w0 w : World} {F : List (Nat × Obj)} (f : File) (p : AtF) (hm : FIn w0 F f p) (hf : f.Ok) (bm : Nat) (hb : Ats w0 F bm 0 (f.cells p)) (i : Nat) (hi : i < f.paps.length) (hs : St w0 w F) :
  Con Tryz.prog 106 [.int .i64 (i : Int), .agg f.paps[i].cells.toArray, .pointer (some ⟨bm, 0, none⟩)] w fun v w' => v = .int .i64 0 ∧ St w0 w' F := by
  refine zAo (n := 63) func106 rfl rfl (zNl rfl) ?_
  have hll := hf.ll
  have hx := hf.pap _ (List.getElem_mem hi)
  have hx1 := hx.says
  have hx2 := hx.lot
  have hj2 : f.paps[i].lot.toNat < f.lots.length := by omega
  have hjn : f.paps[i].lot = ((f.paps[i].lot.toNat : Nat) : Int) := by omega
  obtain ⟨by_, oy, hby, hy⟩ := sl_lot hm hj2
  have hlo := zGc hf hj2
  refine zAf (fun K2 go => (zAb (zCj (v := .agg #[.int _ _, .int _ _, .int _ _]) (cs := [_,_,_]) zAa rfl rfl rfl hs (fun b3 w4 gi => ?_))))
  refine zBi rfl rfl (zAd (zAc (go _ _ (zAf (fun K7 g8 => (zAq ?_))))))
  refine zAf (fun K9 gp => (zAb (w_p (zAe (o := 0) (i := 0) underlying113 rfl sizeOf3 rfl rfl rfl) rfl (w_p (zAg isAgg3 gi rfl rfl (aow 0 [_])) rfl ?_))))
  refine zAu (ps := [(0, _)]) (pv := [(0, .int _ _)]) (cs := [_]) zAa rfl rfl (fun w => zEb _ w) gi (fun gA gB gq => ?_)
  refine zCo zAa call73 rfl rfl rfl rfl (c73 _ _ _ [_] _ (by simp) (zBb (i := 0) (rows := [[_]]) rfl (by simp) rfl) gq) (fun gC g9 => ?_)
  refine w_p (zAs rfl rfl) rfl (zAd (zAc (gp _ _ (zAr rfl rfl (fun g5 => ?_) (fun g5 => ?_)))))
  ·
   exfalso
   try simp only [zS] at g5
   first
     | (simp [out] at g5; omega)
     | (simp [out] at g5)
  try simp only [zS] at g5
  refine zAf (fun gD gt => (zAb (w_p (zAe (o := 2) (i := 2) underlying56 rfl sizeOf52 rfl rfl rfl) rfl (w_p (zAg isAgg52 g9.tail.tail rfl rfl (show Ats _ _ _ _ [_] from Ats.part hb 2 1)) rfl (w_p (zBc underlying52 rfl rfl) rfl (w_p (zFb rfl rfl rfl rfl (by omega) (by omega)) rfl ?_))))))
  refine w_p (zAe (o := 1) (i := 1) underlying113 rfl sizeOf3 rfl rfl rfl) rfl (w_p (zAg isAgg3 g9 rfl rfl (aow 1 [_])) rfl ?_)
  refine zAu (ps := [(0, _)]) (pv := [(0, .int _ _)]) (cs := [_]) zAa rfl rfl (fun w => zEb _ w) g9 (fun gE gF gu => ?_)
  refine zCo zAa call73 rfl rfl rfl rfl (c73 _ _ _ [_] _ (by simp) (zBb (i := 0) (rows := [[_]]) rfl (by simp) rfl) gu) (fun gG gv => ?_)
  refine w_p (zAs rfl rfl) rfl (zAd (zAc (gt _ _ (zAr rfl rfl (fun g6 => ?_) (fun g6 => ?_)))))
  ·
   exfalso
   try simp only [zS] at g6
   first
     | (simp [out] at g6; omega)
     | (simp [out] at g6)
  try simp only [zS] at g6
  refine zAf (fun gH gj => (zCq [] [(0,0),(1,1),(2,0),(3,0),(4,0),(5,1),(6,0),(7,1),(8,0),(9,0),(10,1),(11,0),(12,1),(13,2),(14,0),(15,0),(16,0),(17,0),(18,1),(19,0),(20,0),(21,0),(22,1),(23,0),(24,0),(25,0),(26,1),(27,2),(28,2),(29,0),(30,0),(31,0)] zB4 (zBk (by kernel_rfl)) gv (fun gI g0 => ?_)))
  refine d_w rfl (fun _ => zAe (o := 0) (i := 0) underlying113 rfl sizeOf3 rfl rfl rfl) rfl ?_
  refine zAz rfl zAa rfl g0 (fun _ hq => (zAg isAgg3 hq rfl rfl (aow 2 [_]))) ?_
  refine d_w rfl (fun _ => zCp rfl rfl rfl rfl) rfl (d_w rfl (fun _ => zAt rfl rfl) rfl ?_)
  refine zC6 (fun ga => ?_) (fun ga => ?_)
  ·
   try simp only [zS] at ga
   refine zBe rfl (zAh rfl rfl rfl) rfl (fun _ => (zAe (o := 2) (i := 2) underlying56 rfl sizeOf52 rfl rfl rfl)) ?_
   refine zAz rfl (zAh rfl rfl rfl) rfl g0 (fun _ hq => (zCl hby (zAg isAgg52 hq.tail.tail.tail rfl rfl (show Ats _ _ _ _ [_] from Ats.part hb 2 1)))) ?_
   refine zBe rfl (zAh rfl rfl rfl) rfl (fun _ => (zAe (o := 1) (i := 1) underlying113 rfl sizeOf3 rfl rfl rfl)) ?_
   refine zAz rfl (zAh rfl rfl rfl) rfl g0 (fun _ hq => (zAg isAgg3 hq rfl rfl (aow 2 [_]))) ?_
   refine zBe rfl (zAh rfl rfl rfl) rfl (fun _ => (zA7 underlying52 sizeOf100 rfl rfl rfl rfl (i := f.paps[i].lot.toNat) hjn hj2)) ?_
   refine zBe rfl (zAh rfl rfl rfl) rfl (fun _ => (zAe (o := 0) (i := 0) underlying100 rfl sizeOf22 rfl rfl rfl)) ?_
   refine zAz rfl (zAh rfl rfl rfl) rfl g0 (fun _ hq => (zAg isAgg22 hq.tail.tail.tail rfl rfl (show Ats _ _ _ _ [_] from Ats.part hy 0 1))) ?_
   refine zBe rfl (zAh rfl rfl rfl) rfl (fun _ => (zAe (o := 2) (i := 2) underlying113 rfl sizeOf3 rfl rfl rfl)) ?_
   refine zAz rfl (zAh rfl rfl rfl) rfl g0 (fun _ hq => (zAg isAgg3 hq rfl rfl (aow 2 [_]))) ?_
   refine zBh rfl ?_
   refine zA4 (zAh rfl rfl rfl) call107 rfl rfl rfl rfl ((c107 _ _ _ (hm.r _ hj2).cons.cons.cons (by have := hlo.len; omega) _ g0).mono (fun v w2 h => by rw [decide_eq_true (idx_in (by omega) (hx.one (by omega)))] at h; exact h)) ?_
   rintro _ gJ ⟨rfl, g3⟩
   refine zAd (qn ⟨g3, ?_⟩)
   refine zBe rfl (zAh rfl rfl rfl) rfl (fun _ => (zDo rfl rfl)) ?_
   refine d_w rfl (fun _ => zA5 (v := .bool _) rfl rfl rfl rfl) rfl (d_w rfl (fun _ => zAt rfl rfl) rfl ?_)
   refine zBe rfl (zAh rfl rfl rfl) rfl (fun _ => (zAe (o := 0) (i := 0) underlying113 rfl sizeOf3 rfl rfl rfl)) ?_
   refine zAz rfl (zAh rfl rfl rfl) rfl g3 (fun _ hq => (zAg isAgg3 hq rfl rfl (aow 2 [_]))) ?_
   refine zBe rfl (zAh rfl rfl rfl) rfl (fun _ => (zGw rfl rfl rfl rfl)) ?_
   refine zBe rfl (zAh rfl rfl rfl) rfl (fun _ => (zAt rfl rfl)) ?_
   refine zC6 (fun gc => ?_) (fun gc => ?_)
   ·
    exfalso
    try simp only [zS] at gc
    omega
   try simp only [zS] at gc
   refine zBl rfl rfl rfl rfl ?_
   refine zCb rfl rfl rfl rfl g3 ?_
   refine zBl rfl rfl rfl rfl ?_
   refine zBl rfl rfl rfl rfl ?_
   refine zBl rfl rfl rfl rfl ?_
   refine zCb rfl rfl rfl rfl g3 ?_
   refine zBh rfl ?_
   refine zAm rfl rfl rfl ?_
   refine zAd (qn ⟨g3, ?_⟩)
   refine zBh rfl ?_
   refine zAm rfl rfl rfl ?_
   refine zAd (qn ⟨g3, ?_⟩)
   refine zBe rfl (zAh rfl rfl rfl) rfl (fun _ => (zBg (v := _) rfl rfl rfl rfl)) ?_
   refine d_w rfl (fun _ => zBg (v := .bool _) rfl rfl rfl rfl) rfl (d_w rfl (fun _ => zAs rfl rfl) rfl ?_)
   refine zBm ?_
   refine zAc (gj _ _ (zBs rfl rfl ?_))
   refine zAf (fun gK gk => (zAb (w_p (zAe (o := 0) (i := 0) underlying113 rfl sizeOf3 rfl rfl rfl) rfl (w_p (zAg isAgg3 g3 rfl rfl (aow 2 [_])) rfl (w_p (zGw rfl rfl rfl rfl) rfl (w_p (zAt rfl rfl) rfl ?_))))))
   refine zB5 (fun gd => ?_) (fun gd => ?_)
   ·
    try simp only [zS] at gd
    refine w_y rfl rfl rfl (zAe (o := 1) (i := 1) underlying113 rfl sizeOf3 rfl rfl rfl) rfl ?_
    refine w_y rfl rfl rfl (zAg isAgg3 g3 rfl rfl (aow 2 [_])) rfl ?_
    refine w_y rfl rfl rfl (zAe (o := 2) (i := 2) underlying113 rfl sizeOf3 rfl rfl rfl) rfl ?_
    refine w_y rfl rfl rfl (zAg isAgg3 g3 rfl rfl (aow 2 [_])) rfl ?_
    refine w_y rfl rfl rfl (zCa rfl rfl rfl rfl) rfl ?_
    refine w_p (zA5 (v := .bool _) rfl rfl rfl rfl) rfl (w_p (zAs rfl rfl) rfl (zAd (zAc (gk _ _ (zAr rfl rfl (fun ge => ?_) (fun ge => ?_))))))
    ·
     exfalso
     try simp only [zS] at ge
     have h2 := hx.two (by omega)
     omega
    try simp only [zS] at ge
    refine zAn (zAi (zAc (g8 _ _ (zAf (fun gL gw => (zAb (zBi rfl rfl (zAd (zAc (gw _ _ (zA8 (zBa (l := [.tmp 5]) (vs := [_]) rfl ⟨⟨rfl, (rfl : _ = Value.int _ _)⟩, trivial⟩ ?_))))))))))))
    exact ⟨rfl, g3.tail.tail.tail⟩
   try simp only [zS] at gd
   refine zAm rfl rfl rfl ?_
   refine zAm rfl rfl rfl ?_
   refine zAm rfl rfl rfl ?_
   refine zAm rfl rfl rfl ?_
   refine zAm rfl rfl rfl ?_
   refine w_p (zBg (v := _) rfl rfl rfl rfl) rfl (w_p (zAs rfl rfl) rfl (zAd (zAc (gk _ _ (zBs rfl rfl ?_)))))
   refine zAn (zAi (zAc (g8 _ _ (zAf (fun gM gx => (zAb (zBi rfl rfl (zAd (zAc (gx _ _ (zA8 (zBa (l := [.tmp 5]) (vs := [_]) rfl ⟨⟨rfl, (rfl : _ = Value.int _ _)⟩, trivial⟩ ?_))))))))))))
   exact ⟨rfl, g3.tail.tail.tail⟩
  try simp only [zS] at ga
  refine zBl rfl rfl rfl rfl ?_
  refine zCb rfl rfl rfl rfl g0 ?_
  refine zBl rfl rfl rfl rfl ?_
  refine zCb rfl rfl rfl rfl g0 ?_
  refine zBl rfl rfl rfl rfl ?_
  refine zBl rfl rfl rfl rfl ?_
  refine zCb rfl rfl rfl rfl g0 ?_
  refine zBl rfl rfl rfl rfl ?_
  refine zCb rfl rfl rfl rfl g0 ?_
  refine zBh rfl ?_
  refine zAm rfl rfl rfl ?_
  refine zAd (qn ⟨g0, ?_⟩)
  refine zBl rfl rfl rfl rfl ?_
  refine d_w rfl (fun _ => zBg (v := _) rfl rfl rfl rfl) rfl (d_w rfl (fun _ => zAt rfl rfl) rfl ?_)
  refine zBe rfl (zAh rfl rfl rfl) rfl (fun _ => (zAe (o := 0) (i := 0) underlying113 rfl sizeOf3 rfl rfl rfl)) ?_
  refine zAz rfl (zAh rfl rfl rfl) rfl g0 (fun _ hq => (zAg isAgg3 hq rfl rfl (aow 2 [_]))) ?_
  refine zBe rfl (zAh rfl rfl rfl) rfl (fun _ => (zGw rfl rfl rfl rfl)) ?_
  refine zBe rfl (zAh rfl rfl rfl) rfl (fun _ => (zAt rfl rfl)) ?_
  refine zC6 (fun gf => ?_) (fun gf => ?_)
  ·
   try simp only [zS] at gf
   refine zBe rfl (zAh rfl rfl rfl) rfl (fun _ => (zAe (o := 2) (i := 2) underlying56 rfl sizeOf52 rfl rfl rfl)) ?_
   refine zAz rfl (zAh rfl rfl rfl) rfl g0 (fun _ hq => (zAg isAgg52 hq.tail.tail.tail rfl rfl (show Ats _ _ _ _ [_] from Ats.part hb 2 1))) ?_
   refine zBe rfl (zAh rfl rfl rfl) rfl (fun _ => (zBc underlying52 rfl rfl)) ?_
   refine zBe rfl (zAh rfl rfl rfl) rfl (fun _ => (zFb rfl rfl rfl rfl (by omega) (by omega))) ?_
   refine zBe rfl (zAh rfl rfl rfl) rfl (fun _ => (zAe (o := 2) (i := 2) underlying113 rfl sizeOf3 rfl rfl rfl)) ?_
   refine zAz rfl (zAh rfl rfl rfl) rfl g0 (fun _ hq => (zAg isAgg3 hq rfl rfl (aow 2 [_]))) ?_
   refine zBh rfl ?_
   refine zAu (ps := [(0, _)]) (pv := [(0, .int _ _)]) (cs := [_]) (zAh rfl rfl rfl) rfl rfl (fun w => zEb _ w) g0 (fun gN gO gm => ?_)
   refine zAd (qn ⟨gm.tail, ?_⟩)
   refine zBh rfl ?_
   refine zA4 (zAh rfl rfl rfl) call73 rfl rfl rfl rfl (c73 _ _ _ [_] _ (by simp) (zBb (i := 0) (rows := [[_]]) rfl (by simp) rfl) gm) ?_
   rintro _ gP ⟨rfl, g4⟩
   refine zAd (qn ⟨g4.tail, ?_⟩)
   refine zBe rfl (zAh rfl rfl rfl) rfl (fun _ => (zA5 (v := .bool _) rfl rfl rfl rfl)) ?_
   refine d_w rfl (fun _ => zBg (v := .bool _) rfl rfl rfl rfl) rfl (d_w rfl (fun _ => zAs rfl rfl) rfl ?_)
   refine zBm ?_
   refine zAc (gj _ _ (zAr rfl rfl (fun g7 => ?_) (fun g7 => ?_)))
   ·
    exfalso
    try simp only [zS] at g7
    have h2 := hx.two (by omega)
    first
      | (simp [out] at g7; omega)
      | (simp [out] at g7)
   try simp only [zS] at g7
   refine zAf (fun gQ gn => (zAb (w_p (zAe (o := 0) (i := 0) underlying113 rfl sizeOf3 rfl rfl rfl) rfl (w_p (zAg isAgg3 g4 rfl rfl (aow 3 [_])) rfl (w_p (zGw rfl rfl rfl rfl) rfl (w_p (zAt rfl rfl) rfl ?_))))))
   refine zB5 (fun gg => ?_) (fun gg => ?_)
   ·
    try simp only [zS] at gg
    refine w_y rfl rfl rfl (zAe (o := 1) (i := 1) underlying113 rfl sizeOf3 rfl rfl rfl) rfl ?_
    refine w_y rfl rfl rfl (zAg isAgg3 g4 rfl rfl (aow 3 [_])) rfl ?_
    refine w_y rfl rfl rfl (zAe (o := 2) (i := 2) underlying113 rfl sizeOf3 rfl rfl rfl) rfl ?_
    refine w_y rfl rfl rfl (zAg isAgg3 g4 rfl rfl (aow 3 [_])) rfl ?_
    refine w_y rfl rfl rfl (zCa rfl rfl rfl rfl) rfl ?_
    refine w_p (zA5 (v := .bool _) rfl rfl rfl rfl) rfl (w_p (zAs rfl rfl) rfl (zAd (zAc (gn _ _ (zAr rfl rfl (fun gh => ?_) (fun gh => ?_))))))
    ·
     exfalso
     try simp only [zS] at gh
     have h2 := hx.two (by omega)
     omega
    try simp only [zS] at gh
    refine zAn (zAi (zAc (g8 _ _ (zAf (fun gR gy => (zAb (zBi rfl rfl (zAd (zAc (gy _ _ (zA8 (zBa (l := [.tmp 5]) (vs := [_]) rfl ⟨⟨rfl, (rfl : _ = Value.int _ _)⟩, trivial⟩ ?_))))))))))))
    exact ⟨rfl, g4.tail.tail.tail.tail⟩
   try simp only [zS] at gg
   refine zAm rfl rfl rfl ?_
   refine zAm rfl rfl rfl ?_
   refine zAm rfl rfl rfl ?_
   refine zAm rfl rfl rfl ?_
   refine zAm rfl rfl rfl ?_
   refine w_p (zBg (v := _) rfl rfl rfl rfl) rfl (w_p (zAs rfl rfl) rfl (zAd (zAc (gn _ _ (zBs rfl rfl ?_)))))
   refine zAn (zAi (zAc (g8 _ _ (zAf (fun gS gz => (zAb (zBi rfl rfl (zAd (zAc (gz _ _ (zA8 (zBa (l := [.tmp 5]) (vs := [_]) rfl ⟨⟨rfl, (rfl : _ = Value.int _ _)⟩, trivial⟩ ?_))))))))))))
   exact ⟨rfl, g4.tail.tail.tail.tail⟩
  exfalso
  try simp only [zS] at gf
  omega

theorem c109 {w0 w : World} {F : List (Nat × Obj)} (f : File) (p : AtF) (hm : FIn w0 F f p) (hf : f.Ok) (bm : Nat) (hb : Ats w0 F bm 0 (f.cells p)) (i : Nat) (hi : i < f.clms.length) (hs : St w0 w F) :
  Con Tryz.prog 109 [.int .i64 (i : Int), .agg f.clms[i].cells.toArray, .pointer (some ⟨bm, 0, none⟩)] w fun v w' => v = .int .i64 0 ∧ St w0 w' F := by
  refine zAo (n := 30) func109 rfl rfl (zNl rfl) ?_
  have hll := hf.ll
  have hnp := hf.np
  have hx := hf.clm _ (List.getElem_mem hi)
  have hx1 := hx.1
  have hx2 := hx.2.1
  have hx3 := hx.2.2
  refine zAf (fun K2 g8 => (zAb (zCj (v := .agg #[.int _ _, .int _ _, .int _ _]) (cs := [_,_,_]) zAa rfl rfl rfl hs (fun b3 w4 g5 => ?_))))
  refine zBi rfl rfl (zAd (zAc (g8 _ _ (zAf (fun K7 g9 => (zAq ?_))))))
  refine zAf (fun K9 ga => (zAb (w_p (zAe (o := 2) (i := 2) underlying56 rfl sizeOf52 rfl rfl rfl) rfl (w_p (zAg isAgg52 g5.tail rfl rfl (show Ats _ _ _ _ [_] from Ats.part hb 2 1)) rfl (w_p (zBc underlying52 rfl rfl) rfl (w_p (zFb rfl rfl rfl rfl (by omega) (by omega)) rfl ?_))))))
  refine w_p (zAe (o := 0) (i := 0) underlying102 rfl sizeOf3 rfl rfl rfl) rfl (w_p (zAg isAgg3 g5 rfl rfl (aow 0 [_])) rfl ?_)
  refine zAu (ps := [(0, _)]) (pv := [(0, .int _ _)]) (cs := [_]) zAa rfl rfl (fun w => zEb _ w) g5 (fun gi gj gc => ?_)
  refine zCo zAa call73 rfl rfl rfl rfl (c73 _ _ _ [_] _ (by simp) (zBb (i := 0) (rows := [[_]]) rfl (by simp) rfl) gc) (fun gk g6 => ?_)
  refine w_p (zAt rfl rfl) rfl (zB5 (fun g0 => ?_) (fun g0 => ?_))
  ·
   exfalso
   try simp only [zS] at g0
   first
     | (simp [out] at g0; omega)
     | (simp [out] at g0)
  try simp only [zS] at g0
  refine w_y rfl rfl rfl (zAe (o := 0) (i := 0) underlying56 rfl sizeOf51 rfl rfl rfl) rfl ?_
  refine w_y rfl rfl rfl (zAg isAgg51 g6.tail.tail rfl rfl (show Ats _ _ _ _ [_] from Ats.part hb 0 1)) rfl ?_
  refine w_y rfl rfl rfl (zBc underlying51 rfl rfl) rfl ?_
  refine w_y rfl rfl rfl (zFb rfl rfl rfl rfl (by omega) (by omega)) rfl ?_
  refine w_y rfl rfl rfl (zAe (o := 1) (i := 1) underlying102 rfl sizeOf3 rfl rfl rfl) rfl ?_
  refine w_y rfl rfl rfl (zAg isAgg3 g6 rfl rfl (aow 1 [_])) rfl ?_
  refine zAu (ps := [(0, _)]) (pv := [(0, .int _ _)]) (cs := [_]) (zAh rfl rfl rfl) rfl rfl (fun w => zEb _ w) g6 (fun gm gn gd => ?_)
  refine zA4 (zAh rfl rfl rfl) call73 rfl rfl rfl rfl (c73 _ _ _ [_] _ (by simp) (zBb (i := 0) (rows := [[_]]) rfl (by simp) rfl) gd) ?_
  rintro _ go ⟨rfl, g7⟩
  refine w_p (zBg (v := .bool _) rfl rfl rfl rfl) rfl (w_p (zAs rfl rfl) rfl (zAd (zAc (ga _ _ (zAr rfl rfl (fun g3 => ?_) (fun g3 => ?_))))))
  ·
   exfalso
   try simp only [zS] at g3
   first
     | (simp [out] at g3; omega)
     | (simp [out] at g3)
  try simp only [zS] at g3
  refine zAf (fun gp ge => (zAb (w_p (zAe (o := 2) (i := 2) underlying102 rfl sizeOf3 rfl rfl rfl) rfl (w_p (zAg isAgg3 g7 rfl rfl (aow 2 [_])) rfl ?_))))
  refine zAu (ps := [(0, _)]) (pv := [(0, .int _ _)]) (cs := [_]) zAa rfl rfl (fun w => zEb _ w) g7 (fun gq gt gf => ?_)
  refine zCo zAa call73 rfl rfl rfl rfl (c73 _ _ _ [_] _ (by simp) (zBb (i := 0) (rows := [[_]]) rfl (by simp) rfl) gf) (fun gu gg => ?_)
  refine w_p (zAs rfl rfl) rfl (zAd (zAc (ge _ _ (zAr rfl rfl (fun g4 => ?_) (fun g4 => ?_)))))
  ·
   exfalso
   try simp only [zS] at g4
   first
     | (simp [out] at g4; omega)
     | (simp [out] at g4)
  try simp only [zS] at g4
  refine zAn (zAi (zAc (g9 _ _ (zAf (fun gv gh => (zAb (zBi rfl rfl (zAd (zAc (gh _ _ (zA8 (zBa (l := [.tmp 5]) (vs := [_]) rfl ⟨⟨rfl, (rfl : _ = Value.int _ _)⟩, trivial⟩ ?_))))))))))))
  exact ⟨rfl, gg.tail.tail.tail.tail⟩

theorem c74 {w0 w : World} {F : List (Nat × Obj)} (f : File) (p : AtF) (hm : FIn w0 F f p) (hf : f.Ok) (hs : St w0 w F) :
  Con Tryz.prog 74 [.agg (f.cells p).toArray] w fun v w' => v = .tuple #[.int .i64 0, .int .i64 0, .int .i64 0] ∧ St w0 w' F := by
  refine zAo (n := 68) func74 rfl rfl (zNl rfl) ?_
  have hlu := hf.lu
  have hnp := hf.np
  have hll := hf.ll
  have hlp := hf.lp
  have hlc := hf.lc
  refine zAf (fun K2 g8 => (zAb (zCj (v := .agg #[.slice _ _ _, .slice _ _ _, .slice _ _ _, .slice _ _ _, .slice _ _ _]) (cs := [_,_,_,_,_]) zAa rfl rfl rfl hs (fun b3 w4 g3 => ?_))))
  refine zBi rfl rfl (zBi rfl rfl (zBi rfl rfl (zAd (zAc (g8 _ _ (zAf (fun K7 g9 => ?_)))))))
  have hbx := ats_of (i := 0) (vs := f.cells p) g3 rfl rfl
  refine zAb (w_p (zAe (o := 0) (i := 0) underlying56 rfl sizeOf51 rfl rfl rfl) rfl (w_p (zAg isAgg51 g3 rfl rfl (show Ats _ _ _ _ [_] from Ats.part hbx 0 1)) rfl (w_p (zCc (fv := []) (cv := [_]) rfl rfl rfl rfl) rfl (zCo zAa call94 rfl rfl rfl rfl (c94 f p hm.cons hnp (.func (.func 95) #[] #[.pointer (some ⟨b3,0, none⟩)]) (fun i hi X w hs => zDm call95 (c95 f p (FIn.app hm.cons) hf _ (Ats.app hbx) i hi hs)) g3) (fun w9 g0 => ?_)))))
  refine w_p (zA3 rfl rfl) rfl (w_p (zAk rfl rfl rfl) rfl (w_p (zAk rfl rfl rfl) rfl (zBw rfl rfl (zBw rfl rfl (zAd (zAc (g9 _ _ (zAf (fun gv ga => (zAq ?_))))))))))
  refine zAf (fun gw gc => (zAb (zA6 rfl rfl (w_p (zCs rfl rfl rfl rfl) rfl (w_p (zAs rfl rfl) rfl (zAd (zAc (gc _ _ (zBs rfl rfl ?_)))))))))
  refine zAf (fun gx gd => (zAb (w_p (zAe (o := 1) (i := 1) underlying56 rfl sizeOf22 rfl rfl rfl) rfl (w_p (zAg isAgg22 g0 rfl rfl (show Ats _ _ _ _ [_] from Ats.part hbx 1 1)) rfl (w_p (zBc underlying22 rfl rfl) rfl (w_p (zAe (o := 0) (i := 0) underlying56 rfl sizeOf51 rfl rfl rfl) rfl ?_))))))
  refine w_p (zAg isAgg51 g0 rfl rfl (show Ats _ _ _ _ [_] from Ats.part hbx 0 1)) rfl (w_p (zBc underlying51 rfl rfl) rfl (w_p (zCs rfl rfl rfl rfl) rfl (w_p (zAs rfl rfl) rfl (zAd (zAc (gd _ _ (zAr rfl rfl (fun g4 => ?_) (fun g4 => ?_))))))))
  ·
   exfalso
   try simp only [zS] at g4
   omega
  try simp only [zS] at g4
  refine zAn (zAi (zAc (ga _ _ (zAf (fun gy ge => (zAb (w_p (zAe (o := 1) (i := 1) underlying56 rfl sizeOf22 rfl rfl rfl) rfl (w_p (zAg isAgg22 g0 rfl rfl (show Ats _ _ _ _ [_] from Ats.part hbx 1 1)) rfl ?_))))))))
  refine zCo zAa call98 rfl rfl rfl rfl (c98 f p hm.cons (by omega) (.func (.func 99) #[] #[]) (fun i hi X w hs => zDm call99 (c99 i _ (hf.un _ (List.getElem_mem hi)) hs)) g0) (fun gz g5 => ?_)
  refine w_p (zA3 rfl rfl) rfl (w_p (zAk rfl rfl rfl) rfl (w_p (zAk rfl rfl rfl) rfl (zBw rfl rfl (zBw rfl rfl (zAd (zAc (ge _ _ (zAf (fun gA gf => (zAf (fun gB gg => (zAb (zA6 rfl rfl ?_)))))))))))))
  refine w_p (zCs rfl rfl rfl rfl) rfl (zAd (zAc (gg _ _ (zBs rfl rfl ?_))))
  refine zAn (zAc (gf _ _ (zAf (fun gC gh => (zAb (w_p (zAe (o := 2) (i := 2) underlying56 rfl sizeOf52 rfl rfl rfl) rfl (w_p (zAg isAgg52 g5 rfl rfl (show Ats _ _ _ _ [_] from Ats.part hbx 2 1)) rfl ?_)))))))
  refine w_p (zCc (fv := []) (cv := [_]) rfl rfl rfl rfl) rfl (zCo zAa call100 rfl rfl rfl rfl (c100 f p hm.cons hll (.func (.func 101) #[] #[.pointer (some ⟨b3,0, none⟩)]) (fun i hi X w hs => zDm call101 (c101 f p (FIn.app hm.cons) hf _ (Ats.app hbx) i hi hs)) g5) (fun gD g6 => ?_))
  refine w_p (zA3 rfl rfl) rfl (w_p (zAk rfl rfl rfl) rfl (w_p (zAk rfl rfl rfl) rfl (zBw rfl rfl (zBw rfl rfl (zAd (zAc (gh _ _ (zAf (fun gE gi => (zAf (fun gF gj => (zAb (zA6 rfl rfl ?_)))))))))))))
  refine w_p (zCs rfl rfl rfl rfl) rfl (zAd (zAc (gj _ _ (zBs rfl rfl ?_))))
  refine zAn (zAc (gi _ _ (zAf (fun gG gk => (zAb (w_p (zAe (o := 3) (i := 3) underlying56 rfl sizeOf53 rfl rfl rfl) rfl (w_p (zAg isAgg53 g6 rfl rfl (show Ats _ _ _ _ [_] from Ats.part hbx 3 1)) rfl ?_)))))))
  refine w_p (zCc (fv := []) (cv := [_]) rfl rfl rfl rfl) rfl (zCo zAa call105 rfl rfl rfl rfl (c105 f p hm.cons hlp (.func (.func 106) #[] #[.pointer (some ⟨b3,0, none⟩)]) (fun i hi X w hs => zDm call106 (c106 f p (FIn.app hm.cons) hf _ (Ats.app hbx) i hi hs)) g6) (fun gH g7 => ?_))
  refine w_p (zA3 rfl rfl) rfl (w_p (zAk rfl rfl rfl) rfl (w_p (zAk rfl rfl rfl) rfl (zBw rfl rfl (zBw rfl rfl (zAd (zAc (gk _ _ (zAf (fun gI gm => (zAf (fun gJ gn => (zAb (zA6 rfl rfl ?_)))))))))))))
  refine w_p (zCs rfl rfl rfl rfl) rfl (zAd (zAc (gn _ _ (zBs rfl rfl ?_))))
  refine zAn (zAc (gm _ _ (zAf (fun gK go => (zAb (w_p (zAe (o := 4) (i := 4) underlying56 rfl sizeOf54 rfl rfl rfl) rfl (w_p (zAg isAgg54 g7 rfl rfl (show Ats _ _ _ _ [_] from Ats.part hbx 4 1)) rfl ?_)))))))
  refine w_p (zCc (fv := []) (cv := [_]) rfl rfl rfl rfl) rfl (zCo zAa call108 rfl rfl rfl rfl (c108 f p hm.cons hlc (.func (.func 109) #[] #[.pointer (some ⟨b3,0, none⟩)]) (fun i hi X w hs => zDm call109 (c109 f p (FIn.app hm.cons) hf _ (Ats.app hbx) i hi hs)) g7) (fun gL gp => ?_))
  refine w_p (zA3 rfl rfl) rfl (w_p (zAk rfl rfl rfl) rfl (w_p (zAk rfl rfl rfl) rfl (zBw rfl rfl (zBw rfl rfl (zAd (zAc (go _ _ (zAf (fun gM gq => (zAf (fun gN gt => (zAb (zA6 rfl rfl ?_)))))))))))))
  refine w_p (zCs rfl rfl rfl rfl) rfl (zAd (zAc (gt _ _ (zBs rfl rfl ?_))))
  refine zAn (zAc (gq _ _ (zAf (fun gO gu => (zAb (zBi rfl rfl (zBi rfl rfl (zBi rfl rfl (zAd (zAc (gu _ _ (zA8 (zBa (l := [.tmp 2, .tmp 3, .tmp 4]) (vs := [_,_,_]) rfl ⟨⟨rfl, (rfl : _ = Value.int _ _)⟩, ⟨rfl, (rfl : _ = Value.int _ _)⟩, ⟨rfl, (rfl : _ = Value.int _ _)⟩, trivial⟩ ?_)))))))))))))
  exact ⟨rfl, gp.tail⟩

end Go.Proofs.Uc
/- Plain words of the claim layer: papers, and truths segment by segment. No conditions. -/
namespace Go.Rt.Cm
open Go.Rt.Ha (felt spanL upto bit listL fewest Bunch zD4 zC4 at_ zBv zDu upto_nodup zC2 bit01)
def sayIs : Nat → Int → Int → Bool
  | 0, a, b => decide (b ≤ a)
  | 1, a, b => decide (a < b)
  | 2, a, b => decide (a = b)
  | _, a, b => !decide (a = b)
theorem zH9 {f : File} {x : List Int} {q : Pap} {j : Nat} (hj : q.says = (j : Int)) (h : ¬ 2 ≤ q.says) : sayIs j (x.getD q.lot.toNat 0) (idxI (lotAt f q.lot.toNat).route q.of_ 0) = papIs f x q := by
  unfold papIs
  match j, hj with
  | 0, hj => rw [if_pos (by omega)]; rfl
  | 1, hj => rw [if_neg (by omega), if_pos (by omega)]; rfl
  | j + 2, hj => omega
theorem zH8 {f : File} {x : List Int} {q : Pap} {j : Nat} (hj : q.says = (j : Int)) (h : 2 ≤ q.says) (h3 : q.says ≤ 3) : sayIs j (withP f x q.lot.toNat) (withP f x q.of_.toNat) = papIs f x q := by
  unfold papIs
  match j, hj with
  | 0, hj => omega
  | 1, hj => omega
  | 2, hj => rw [if_neg (by omega), if_neg (by omega), if_pos (by omega)]; rfl
  | 3, hj => rw [if_neg (by omega), if_neg (by omega), if_neg (by omega)]; simp [sayIs]
  | j + 4, hj => omega
theorem zFv {f : File} {but : Nat} {x : List Int} {i : Nat} (h : soTo f but x i = true) (h2 : soAt f but x i = true) : soTo f but x (i + 1) = true := by rw [soTo, h, h2]; rfl
theorem soAt_1 {f : File} {but : Nat} {x : List Int} {i : Nat} (h : ¬ bit but i = 0) : soAt f but x i = true := by unfold soAt; rw [decide_eq_false h]; rfl
theorem soAt_2 {f : File} {but : Nat} {x : List Int} {i : Nat} (hi : i < f.paps.length) (h : papIs f x f.paps[i] = true) : soAt f but x i = true := by unfold soAt; rw [pap_at hi, h, Bool.or_true]
theorem zH6 {f : File} {but : Nat} {x : List Int} {i : Nat} (hi : i < f.paps.length) (h0 : bit but i = 0) (h : papIs f x f.paps[i] = false) : soAt f but x i = false := by unfold soAt; rw [pap_at hi, h, decide_eq_true h0]; rfl
theorem zFw {f : File} {but : Nat} {x : List Int} {i : Nat} (h : soAt f but x i = false) : ∀ n, i < n → soTo f but x n = false
  | 0, hn => by omega
  | n + 1, hn => by
    by_cases e : i = n
    · subst e; rw [soTo, h, Bool.and_false]
    · rw [soTo, zFw h n (by omega)]; rfl
theorem pad4_len {h : List Int} (hl : h.length ≤ 4) : (pad4 h).length = 4 := by simp [pad4]; omega
theorem pad4_at (h : List Int) (b : Nat) : (pad4 h).getD b 0 = h.getD b 0 := by
  unfold pad4
  by_cases hb : b < h.length
  · simp [List.getD, List.getElem?_append_left hb]
  · rw [List.getD, List.getD, List.getElem?_append_right (by omega), List.getElem?_eq_none (by omega : h.length ≤ b)]
    by_cases h2 : b - h.length < 4 - h.length
    · simp [List.getElem?_replicate, h2]
    · simp [List.getElem?_replicate, h2]
theorem pad4_inj {a b : List Int} (h : a.length = b.length) (e : pad4 a = pad4 b) : a = b := by
  unfold pad4 at e
  exact (List.append_inj e h).1
theorem cur_pad4 {cur pre : List Int} {d : Nat} (hl : cur.length = 4) (hp : pre.length = d) (hd : d ≤ 4) (hk : cur.take d = pre) (hz : ∀ j, d ≤ j → cur.getD j 0 = 0) : cur = pad4 pre := by
  apply List.ext_getElem?
  intro i
  by_cases hi : i < 4
  · have e1 : cur[i]? = some (cur.getD i 0) := by rw [List.getD, List.getElem?_eq_getElem (by omega)]; rfl
    have e2 : (pad4 pre)[i]? = some ((pad4 pre).getD i 0) := by rw [List.getD, List.getElem?_eq_getElem (by rw [pad4_len (by omega)]; exact hi)]; rfl
    rw [e1, e2, pad4_at]
    by_cases h : i < d
    · subst hk
      rw [List.getD, List.getD, List.getElem?_take, if_pos h]
    · rw [hz i (by omega), List.getD, List.getElem?_eq_none (by omega)]; rfl
  · rw [List.getElem?_eq_none (by omega), List.getElem?_eq_none (by rw [pad4_len (by omega)]; omega)]
theorem zGp (f : File) : (bunC f).length = f.lots.length := by simp [bunC]
theorem bunC_get {f : File} {d : Nat} (hd : d < f.lots.length) (h2 : d < (bunC f).length) : (bunC f)[d] = ⟨(lotAt f d).lo, (lotAt f d).hi, 0,0⟩ := by simp [bunC, zC5 hd]
def segF (f : File) (d : Nat) (pre : List Int) : List (List Int) := ((felt ((bunC f).drop d)).map (pre ++ ·)).map pad4
def segK (f : File) (but d : Nat) (pre : List Int) : List (List Int) := (segF f d pre).filter (soC f but)
theorem zF7 {f : File} {d : Nat} {pre : List Int} (hd : f.lots.length ≤ d) : segF f d pre = [pad4 pre] := by
  unfold segF; rw [List.drop_of_length_le (by rw [zGp]; exact hd)]; simp [felt]
theorem segK_leaf {f : File} {but d : Nat} {pre : List Int} (hd : f.lots.length ≤ d) : segK f but d pre = if soC f but (pad4 pre) = true then [pad4 pre] else [] := by
  unfold segK; rw [zF7 hd, List.filter_cons, List.filter_nil]
def restF (f : File) (d : Nat) (pre xs : List Int) : List (List Int) := xs.flatMap fun x => segF f (d + 1) (pre ++ [x])
def restK (f : File) (but d : Nat) (pre xs : List Int) : List (List Int) := xs.flatMap fun x => segK f but (d + 1) (pre ++ [x])
theorem zF6 {f : File} {d : Nat} {pre : List Int} (hd : d < f.lots.length) : segF f d pre = restF f d pre (spanL (lotAt f d).lo (lotAt f d).hi) := by
  have hl : d < (bunC f).length := by rw [zGp]; exact hd
  unfold segF restF
  rw [List.drop_eq_getElem_cons hl, bunC_get hd]
  simp only [felt, List.map_flatMap, List.map_map]
  refine congrArg (List.flatMap · _) ?_
  funext x
  unfold segF
  simp only [List.map_map]
  refine List.map_congr_left fun y _ => ?_
  simp
theorem zE9 {α β : Type} (p : β → Bool) (f : α → List β) : ∀ l : List α, (l.flatMap f).filter p = l.flatMap fun x => (f x).filter p
  | [] => rfl
  | a :: l => by simp only [List.flatMap_cons, List.filter_append, zE9 p f l]
theorem segK_node {f : File} {but d : Nat} {pre : List Int} (hd : d < f.lots.length) : segK f but d pre = restK f but d pre (spanL (lotAt f d).lo (lotAt f d).hi) := by
  unfold segK restK; rw [zF6 hd]; unfold restF; rw [zE9]; rfl
theorem zEu {f : File} {d : Nat} {pre : List Int} {lo : Int} {q n : Nat} (h : q < n) : restF f d pre (upto (lo + q) (n - q)) = segF f (d + 1) (pre ++ [lo + q]) ++ restF f d pre (upto (lo + (q + 1 : Nat)) (n - (q + 1))) := by rw [zC2 h]; rfl
theorem zDr {f : File} {d : Nat} {pre : List Int} {lo : Int} {q n : Nat} (h : n ≤ q) : restF f d pre (upto (lo + q) (n - q)) = [] := by rw [show n - q = 0 by omega]; rfl
theorem zIa {f : File} {but d : Nat} {pre : List Int} {lo : Int} {q n : Nat} (h : q < n) : restK f but d pre (upto (lo + q) (n - q)) = segK f but (d + 1) (pre ++ [lo + q]) ++ restK f but d pre (upto (lo + (q + 1 : Nat)) (n - (q + 1))) := by rw [zC2 h]; rfl
theorem zDq {f : File} {but d : Nat} {pre : List Int} {lo : Int} {q n : Nat} (h : n ≤ q) : restK f but d pre (upto (lo + q) (n - q)) = [] := by rw [show n - q = 0 by omega]; rfl
theorem segK_all (f : File) (but : Nat) : segK f but 0 [] = truths f but := by unfold segK segF truths; simp
theorem felt_four {f : File} (hf : f.Ok) {h : List Int} (hh : h ∈ felt (bunC f)) : h.length = f.lots.length ∧ In4 f (pad4 h) := by
  obtain ⟨h1, h2⟩ := (zD4 _ _).1 hh
  rw [zGp] at h1
  have hll := hf.ll
  refine ⟨h1, pad4_len (by omega), fun i hi => ?_⟩
  have := h2 i (by rw [zGp]; exact hi)
  rw [bunC_get hi] at this
  rw [pad4_at]
  exact this
theorem all_nodup {f : File} (hf : f.Ok) : (segF f 0 []).Nodup := by
  have h1 := zC4 (bunC f)
  have h2 : ∀ h ∈ felt (bunC f), h.length = f.lots.length := fun h hh => (felt_four hf hh).1
  unfold segF
  rw [List.drop_zero]
  revert h1 h2
  generalize felt (bunC f) = L
  have hl4 := hf.ll
  induction L with
  | nil => intro _ _; simp
  | cons x L ih =>
    intro hn hl
    rw [List.nodup_cons] at hn
    rw [List.map_cons, List.map_cons, List.nodup_cons]
    refine ⟨fun hm => ?_, ih hn.2 fun h hh => hl h (.tail _ hh)⟩
    obtain ⟨y, hy, e⟩ := List.mem_map.1 hm
    obtain ⟨z, hz, rfl⟩ := List.mem_map.1 hy
    rw [List.nil_append, List.nil_append] at e
    have l1 := hl x (.head _)
    have l2 := hl z (.tail _ hz)
    have := pad4_inj (by omega) e
    subst this; exact hn.1 hz
theorem zFu {f : File} (hf : f.Ok) {but : Nat} {x : List Int} (h : x ∈ truths f but) : In4 f x := by
  unfold truths at h
  obtain ⟨h1, _⟩ := List.mem_filter.1 h
  obtain ⟨z, hz, rfl⟩ := List.mem_map.1 h1
  exact (felt_four hf hz).2
theorem zH5 {f : File} (hf : f.Ok) : [-1,0,0,0] ∉ segF f 0 [] := by
  intro h
  unfold segF at h
  rw [List.drop_zero] at h
  obtain ⟨y, hy, e⟩ := List.mem_map.1 h
  obtain ⟨z, hz, rfl⟩ := List.mem_map.1 hy
  rw [List.nil_append] at e
  obtain ⟨h1, h2⟩ := felt_four hf hz
  by_cases h0 : 0 < f.lots.length
  · have h3 := h2.2 0 h0
    have h4 := (zGc hf h0).turned
    rw [e] at h3
    have h5 : ([-1,0,0,0] : List Int).getD 0 0 = -1 := rfl
    rw [h5] at h3
    omega
  · have h6 : z = [] := List.eq_nil_of_length_eq_zero (by omega)
    subst h6
    cases e
theorem pre_next4 {f : File} {d : Nat} {pre : List Int} {x : Int} (hp : pre.length = d) (h : ∀ j, j < d → (lotAt f j).lo ≤ pre.getD j 0 ∧ pre.getD j 0 ≤ (lotAt f j).hi) (hx : (lotAt f d).lo ≤ x ∧ x ≤ (lotAt f d).hi) : ∀ j, j < d + 1 → (lotAt f j).lo ≤ (pre ++ [x]).getD j 0 ∧ (pre ++ [x]).getD j 0 ≤ (lotAt f j).hi := by
  intro j hj
  by_cases e : j < d
  · have e2 : (pre ++ [x]).getD j 0 = pre.getD j 0 := by simp [List.getD, List.getElem?_append_left (by omega : j < pre.length)]
    rw [e2]; exact h j e
  · have e3 : j = d := by omega
    subst e3
    have e2 : (pre ++ [x]).getD j 0 = x := by simp [List.getD, ← hp]
    rw [e2]; exact hx
theorem with_at {f : File} {x : List Int} {lot q : Nat} (hq : x.getD lot 0 = (q : Int)) (h : q < (lotAt f lot).route.length) : withP f x lot = (lotAt f lot).route[q] := by
  unfold withP; rw [hq]; simp [List.getD, h]
end Go.Rt.Cm
