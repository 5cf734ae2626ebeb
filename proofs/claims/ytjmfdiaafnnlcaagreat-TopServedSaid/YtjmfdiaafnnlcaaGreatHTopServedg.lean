/- Own texts of this claim, joined. No conditions. -/
import Derived.Test.YtjmfdiaafnnlcaaGreatHTopServeda
import Derived.Test.YtjmfdiaafnnlcaaGreatHTopServedb
import Derived.Test.YtjmfdiaafnnlcaaGreatHTopServedc
import Derived.Test.YtjmfdiaafnnlcaaGreatHTopServedd
import Derived.Test.YtjmfdiaafnnlcaaGreatHTopServede
import Derived.Test.YtjmfdiaafnnlcaaGreatHTopServedf
set_option linter.unusedVariables false
set_option linter.unusedSimpArgs false
set_option maxRecDepth 20000
namespace Go.Proofs.Hn
open Go.Proofs.Tryz
open Go.Rt Go.Rt.Ha
attribute [local irreducible] WL WC Con Yd At Ats Sl Agree DW
theorem Try_HWa_fb6 (x0 : Option Addr) (l0 c0 : Nat) (w : World) : (Instr.buildSlice 40 1 [(0, .slice x0 l0 c0)].toArray).run Tryz.prog w = .ok (.slice (some ⟨w.heap.size, 0, none⟩) 1 1) (w.alloc (Go.Rt.blk 43 [.slice x0 l0 c0])) := by kernel_rfl
theorem felt_all {l : Lot} (hok : l.Ok) : (felt l.bunches).length ≤ 4096 := by
  have h := zJo hok (Nat.le_refl l.bunches.length); rw [zJp] at h; exact h
theorem c6 {w0 w : World} {F : List (Nat × Obj)} (l : Lot) (p : At3) (hm : LIn w0 F l p) (hok : l.Ok) (abt : Option Addr) (cbt : Nat) (bt : List Int) (hbl : bt.length ≤ 9223372036854775807) (hbs : Sl w0 F abt 1 (bt.map fun x => [Value.int .i64 x])) (hs : St w0 w F) :
  Con Tryz.prog 6 [.agg (l.cells p).toArray, .slice abt bt.length cbt] w fun v w' => ∃ (B : List (Nat × Obj)) (vs : List Value) (a : Option Addr) (c : Nat), v = .slice a (waysR l bt).length c ∧ Sl w0 B a 1 (vs.map fun v => [v]) ∧ EL w0 B vs (waysR l bt) ∧ St w0 w' (B ++ F) := by
  refine zAt (n := 59) func6 rfl rfl (zNl rfl) ?_
  have hlc := hok.lc
  have hlb := hok.lb
  refine zAe (fun K2 gi => (zAa (zCa (v := .agg #[.slice _ _ _, .slice _ _ _, .slice _ _ _]) (cs := [_,_,_]) zAc rfl rfl rfl hs (fun b3 w4 g5 => ?_))))
  refine zA5 rfl rfl (zAd (zAb (gi _ _ (zAe (fun K7 gj => ?_)))))
  have hbx := ats_ofR (i := 0) (vs := l.cells p) g5 rfl rfl
  refine zAa (w_p (zA4 (vs := [_,_,_]) isAgg26 sizeOf26 g5 rfl rfl hbx) rfl (zAr zAc call20 rfl rfl rfl rfl (c20 l p hm.cons hok g5) ?_))
  rintro _ w9 ⟨FB, fv, aF, cF, rfl, hslF, helF, g6⟩
  replace g6 := (show St _ _ (FB ++ (_ :: F)) from g6)
  have hfl := felt_all hok
  refine w_p (zAo (v := .slice _ _ _) rfl rfl) rfl (zAd (zAb (gj _ _ (zAe (fun gF gk => (zAa (zA5 rfl rfl (zAd (zAb (gk _ _ (zAe (fun gG gm => (zAe (fun gH gn => (zAa (zA5 rfl rfl ?_))))))))))))))))
  refine zAd (zAb (gn _ _ (zAw ?_)))
  refine zBs [6,7,8,9,12,13,14,15,16,17,18,19,20,21,22,23,24,25,26,27,28,29,30,31,32,33,34,35,36,37,38,39,40,41,42,43,44,45,46,47,48,49,50,51,52,53,54,55,56,57] [6,7] (fun kk vs0 w => ∃ (i : Nat) (v : Value) (OB : List (Nat × Obj)) (ws : List Value), vs0 = [v, .int .i64 i] ∧ i ≤ (felt l.bunches).length ∧ kk = (felt l.bunches).length - i ∧ Rt.Own v 43 1 (((felt l.bunches).take i).filter (fun h => soR bt h 0 l.counts)).length ws OB ∧ EL w0 FB ws (((felt l.bunches).take i).filter (fun h => soR bt h 0 l.counts)) ∧ St w0 w (OB ++ (FB ++ ((b3, blk 26 (l.cells p)) :: F)))) ((felt l.bunches).length) ?_ ?_
  ·
   exact ⟨0, _, [], [], rfl, by omega, by omega, zEm 43 1, EL.nil _ _, g6⟩
  intro k vs μ gI hI gJ gg
  obtain ⟨i, v, OB, ws, rfl, hia, rfl, hown, hel, hs⟩ := hI
  refine zAe (fun gK gq => (zAe (fun gL gr => (zAa (zAz rfl rfl (w_p (zAi (v := .slice _ _ _) rfl rfl) rfl (w_p (zA8 underlying40 rfl rfl) rfl (w_p (zBw rfl rfl rfl rfl) rfl ?_))))))))
  refine zAd (zAb (gr _ _ (zAu rfl rfl (fun g7 => ?_) (fun g7 => ?_))))
  ·
   try simp only [zS] at g7
   refine zAs (zAb (gq _ _ (zAe (fun gM gh => (zAw ?_)))))
   refine zAe (fun gN gt => ?_)
   have hi2 : i < (felt l.bunches).length := by omega
   obtain ⟨bx, ox, bq3, c3, haF, hx0, hsx0, hnx⟩ := el_at hslF helF hi2
   subst haF
   have hx := hx0.top (F := (b3, blk 26 (l.cells p)) :: F)
   have hin := zKo hok (List.getElem_mem hi2)
   have hwl : (((felt l.bunches).take i).filter (fun h => soR bt h 0 l.counts)).length ≤ i := by have := List.length_filter_le (fun h => soR bt h 0 l.counts) ((felt l.bunches).take i); rw [List.length_take] at this; omega
   refine zAa (zA5 rfl rfl (zAd (zAb (gt _ _ (zAe (fun gP gu => (zAe (fun gQ gv => (zAa (zA5 rfl rfl (zAd (zAb (gv _ _ (zAw ?_))))))))))))))
   refine zBs [8,9,18,19,20,21,22,23,24,25,26,27,28,29,30,31,32,33,34,35,36,37,38,39,40,41,42,43,44,45,46,47,48,49] [8,9] (fun kk vs0 w => ∃ (k : Nat), vs0 = [.bool (soR bt ((felt l.bunches)[i]'hi2) 0 (l.counts.take k)), .int .i64 k] ∧ k ≤ l.counts.length ∧ kk = l.counts.length - k ∧ St w0 w (OB ++ (FB ++ ((b3, blk 26 (l.cells p)) :: F)))) (l.counts.length) ?_ ?_
   ·
    exact ⟨0, rfl, by omega, by omega, hs⟩
   intro k vs μ gR hI gS g8
   obtain ⟨k, rfl, hka, rfl, hs⟩ := hI
   generalize hsk : soR bt ((felt l.bunches)[i]'hi2) 0 (l.counts.take k) = sk
   refine zAe (fun gU gw => (zAe (fun gV gx => (zAa (zAz rfl rfl (w_p (zAf (o := 2) (i := 2) underlying26 rfl sizeOf24 rfl rfl rfl) rfl (w_p (zAj isAgg24 hs.drop.drop rfl rfl (show Ats _ _ _ _ [_] from Ats.part hbx 2 1)) rfl ?_)))))))
   refine w_p (zA8 underlying24 rfl rfl) rfl (w_p (zBw rfl rfl rfl rfl) rfl (zAd (zAb (gx _ _ (zAu rfl rfl (fun g9 => ?_) (fun g9 => ?_))))))
   ·
    try simp only [zS] at g9
    refine zAs (zAb (gw _ _ (zAe (fun gW ga => (zAw ?_)))))
    have hk2 : k < l.counts.length := by omega
    obtain ⟨by_, oy, hby, hy⟩ := zKh hm.c hk2
    have hcc := hok.count _ (List.getElem_mem hk2)
    have hp64 := pow64 hlb
    refine zCn [] [(0,0),(1,0),(2,0),(3,0),(4,2),(5,0),(6,0),(7,1),(8,0),(9,0),(10,1),(11,0),(12,0),(13,0),(14,1),(16,0),(17,1),(18,0),(19,0),(20,0),(21,1),(15,2),(22,0),(23,0),(24,0),(25,0)] zCb (zEn (by kernel_rfl)) hs (fun gX g3 => ?_)
    refine d_w rfl (fun _ => zAi (v := .bool _) rfl rfl) rfl ?_
    refine d_w rfl (fun _ => zAi (v := .bool _) rfl rfl) rfl ?_
    refine zEw (fun gb => ?_) (fun gb => ?_)
    ·
     subst gb
     refine zBn rfl (zAq rfl rfl rfl) rfl (fun _ => (zAi (v := .slice _ _ _) rfl rfl)) ?_
     refine zBn rfl (zAq rfl rfl rfl) rfl (fun _ => (zA2 rfl rfl)) ?_
     refine zCq rfl ?_
     refine zAr (zAq rfl rfl rfl) call21 rfl rfl rfl rfl (c21 _ _ bt hbl hbs.cons.app.app _ g3) ?_
     rintro _ gY ⟨rfl, g0⟩
     refine zAd (qn ⟨g0, ?_⟩)
     refine zBn rfl (zAq rfl rfl rfl) rfl (fun _ => (zAi (v := .bool _) rfl rfl)) ?_
     refine zEw (fun gc => ?_) (fun gc => ?_)
     ·
      try simp only [zS] at gc
      refine zBj rfl rfl rfl rfl ?_
      refine zC6 rfl rfl rfl rfl g0 ?_
      refine zBj rfl rfl rfl rfl ?_
      refine zBj rfl rfl rfl rfl ?_
      refine zC6 rfl rfl rfl rfl g0 ?_
      refine zBj rfl rfl rfl rfl ?_
      refine zBj rfl rfl rfl rfl ?_
      refine zBj rfl rfl rfl rfl ?_
      refine zC6 rfl rfl rfl rfl g0 ?_
      refine zBj rfl rfl rfl rfl ?_
      refine zC6 rfl rfl rfl rfl g0 ?_
      refine zBj rfl rfl rfl rfl ?_
      refine zBj rfl rfl rfl rfl ?_
      refine zBj rfl rfl rfl rfl ?_
      refine zC6 rfl rfl rfl rfl g0 ?_
      refine zCq rfl ?_
      refine zAh rfl rfl rfl ?_
      refine zAd (qn ⟨g0, ?_⟩)
      refine zBj rfl rfl rfl rfl ?_
      refine zBn rfl (zAq rfl rfl rfl) rfl (fun _ => (zAx (v := _) rfl rfl rfl rfl)) ?_
      refine d_w rfl (fun _ => zAx (v := .bool _) rfl rfl rfl rfl) rfl ?_
      refine d_w rfl (fun _ => zAo (v := .bool _) rfl rfl) rfl ?_
      refine zCf ?_
      refine zAl (zAb (ga _ _ (zAa (zAz rfl rfl (w_p (zBg rfl rfl rfl rfl (by omega) (by omega)) rfl (zBe rfl rfl (zAd (zAb (g8 _ _ (nxI (l.counts.length - (k + 1)) (by omega) ?_))))))))))
      first
        | exact ⟨k + 1, bi2 (by rw [zE1 hk2, hsk, (by assumption : hasI bt (k : Int) = true)]; rfl) rfl, by omega, rfl, g0⟩
        | exact ⟨k + 1, bi2 (by rw [zE1 hk2, hsk, (by assumption : hasI bt (k : Int) = false)]; rfl) rfl, by omega, rfl, g0⟩
        | exact ⟨k + 1, bi2 (by rw [zE1 hk2, hsk]; rfl) rfl, by omega, rfl, g0⟩
     try simp only [zS] at gc
     refine zBn rfl (zAq rfl rfl rfl) rfl (fun _ => (zAf (o := 2) (i := 2) underlying26 rfl sizeOf24 rfl rfl rfl)) ?_
     refine zBd rfl (zAq rfl rfl rfl) rfl g0 (fun _ hq => (zG5 hby (zAj isAgg24 hq.drop.drop rfl rfl (show Ats _ _ _ _ [_] from Ats.part hbx 2 1)))) ?_
     refine zBn rfl (zAq rfl rfl rfl) rfl (fun _ => (zA2 rfl rfl)) ?_
     refine zBn rfl (zAq rfl rfl rfl) rfl (fun _ => (zA3 underlying24 sizeOf67 rfl rfl rfl rfl (i := _) rfl (by omega))) ?_
     refine zBd rfl (zAq rfl rfl rfl) rfl g0 (fun _ hq => (zA4 (vs := [_,_]) isAgg67 sizeOf67 hq.drop.drop.tail rfl rfl hy)) ?_
     refine zBn rfl (zAq rfl rfl rfl) rfl (fun _ => (zAi (v := .slice _ _ _) rfl rfl)) ?_
     refine zBn rfl (zAq rfl rfl rfl) rfl (fun _ => (zA2 rfl rfl)) ?_
     refine zBn rfl (zAq rfl rfl rfl) rfl (fun _ => (zA3 underlying40 sizeOf43 rfl rfl rfl rfl (i := _) rfl (by omega))) ?_
     refine zBd rfl (zAq rfl rfl rfl) rfl g0 (fun _ hq => (zAj isAgg43 hq.drop rfl rfl hx)) ?_
     refine zBn rfl (zAq rfl rfl rfl) rfl (fun _ => (zAf (o := 2) (i := 2) underlying26 rfl sizeOf24 rfl rfl rfl)) ?_
     refine zBd rfl (zAq rfl rfl rfl) rfl g0 (fun _ hq => (zG5 hby (zAj isAgg24 hq.drop.drop rfl rfl (show Ats _ _ _ _ [_] from Ats.part hbx 2 1)))) ?_
     refine zBn rfl (zAq rfl rfl rfl) rfl (fun _ => (zA2 rfl rfl)) ?_
     refine zBn rfl (zAq rfl rfl rfl) rfl (fun _ => (zA3 underlying24 sizeOf67 rfl rfl rfl rfl (i := _) rfl (by omega))) ?_
     refine zBn rfl (zAq rfl rfl rfl) rfl (fun _ => (zAf (o := 1) (i := 1) underlying67 rfl sizeOf3 rfl rfl rfl)) ?_
     refine zBd rfl (zAq rfl rfl rfl) rfl g0 (fun _ hq => (zAj isAgg3 hq.drop.drop.tail rfl rfl (show Ats _ _ _ _ [_] from Ats.part hy 1 1))) ?_
     refine zCq rfl ?_
     refine zAr (zAq rfl rfl rfl) call22 rfl rfl rfl rfl (c22 (l.counts[k]'hk2) (by omega) _ _ ((felt l.bunches)[i]'hi2) (by omega) (fun z hz => by have := hin.2 z hz; omega) hsx0.top.app g0) ?_
     rintro _ gZ ⟨rfl, g4⟩
     refine zAd (qn ⟨g4, ?_⟩)
     refine zBn rfl (zAq rfl rfl rfl) rfl (fun _ => (zB6 rfl rfl rfl rfl)) ?_
     refine zBn rfl (zAq rfl rfl rfl) rfl (fun _ => (zA9 (v := .bool _) rfl rfl rfl rfl)) ?_
     refine d_w rfl (fun _ => zAx (v := .bool _) rfl rfl rfl rfl) rfl ?_
     refine d_w rfl (fun _ => zAo (v := .bool _) rfl rfl) rfl ?_
     refine zCf ?_
     refine zAl (zAb (ga _ _ (zAa (zAz rfl rfl (w_p (zBg rfl rfl rfl rfl (by omega) (by omega)) rfl (zBe rfl rfl (zAd (zAb (g8 _ _ (nxI (l.counts.length - (k + 1)) (by omega) ?_))))))))))
     first
       | exact ⟨k + 1, bi2 (by rw [zE1 hk2, hsk, (by assumption : hasI bt (k : Int) = true)]; rfl) rfl, by omega, rfl, g4⟩
       | exact ⟨k + 1, bi2 (by rw [zE1 hk2, hsk, (by assumption : hasI bt (k : Int) = false)]; rfl) rfl, by omega, rfl, g4⟩
       | exact ⟨k + 1, bi2 (by rw [zE1 hk2, hsk]; rfl) rfl, by omega, rfl, g4⟩
    subst gb
    refine zBj rfl rfl rfl rfl ?_
    refine zBj rfl rfl rfl rfl ?_
    refine zCq rfl ?_
    refine zAh rfl rfl rfl ?_
    refine zAd (qn ⟨g3, ?_⟩)
    refine zBj rfl rfl rfl rfl ?_
    refine zCw rfl rfl rfl rfl ?_
    refine zEx rfl rfl rfl rfl g3 ?_
    refine zCw rfl rfl rfl rfl ?_
    refine zCw rfl rfl rfl rfl ?_
    refine zEx rfl rfl rfl rfl g3 ?_
    refine zCw rfl rfl rfl rfl ?_
    refine zCw rfl rfl rfl rfl ?_
    refine zCw rfl rfl rfl rfl ?_
    refine zEx rfl rfl rfl rfl g3 ?_
    refine zCw rfl rfl rfl rfl ?_
    refine zEx rfl rfl rfl rfl g3 ?_
    refine zCw rfl rfl rfl rfl ?_
    refine zCw rfl rfl rfl rfl ?_
    refine zCw rfl rfl rfl rfl ?_
    refine zEx rfl rfl rfl rfl g3 ?_
    refine zCq rfl ?_
    refine zBa rfl rfl rfl ?_
    refine zAd (qn ⟨g3, ?_⟩)
    refine zCw rfl rfl rfl rfl ?_
    refine zBj rfl rfl rfl rfl ?_
    refine d_w rfl (fun _ => zA9 (v := _) rfl rfl rfl rfl) rfl ?_
    refine d_w rfl (fun _ => zAo (v := .bool _) rfl rfl) rfl ?_
    refine zCf ?_
    refine zAl (zAb (ga _ _ (zAa (zAz rfl rfl (w_p (zBg rfl rfl rfl rfl (by omega) (by omega)) rfl (zBe rfl rfl (zAd (zAb (g8 _ _ (nxI (l.counts.length - (k + 1)) (by omega) ?_))))))))))
    first
      | exact ⟨k + 1, bi2 (by rw [zE1 hk2, hsk, (by assumption : hasI bt (k : Int) = true)]; rfl) rfl, by omega, rfl, g3⟩
      | exact ⟨k + 1, bi2 (by rw [zE1 hk2, hsk, (by assumption : hasI bt (k : Int) = false)]; rfl) rfl, by omega, rfl, g3⟩
      | exact ⟨k + 1, bi2 (by rw [zE1 hk2, hsk]; rfl) rfl, by omega, rfl, g3⟩
   try simp only [zS] at g9
   refine zBl (zAm (zAm (zA0 (zAb (gu _ _ (zAe (fun hD gy => ?_)))))))
   have hkn : k = l.counts.length := by omega
   subst hkn
   rw [List.take_length] at hsk
   refine zAa (w_p (zAi (v := .bool _) rfl rfl) rfl (zAd (zAb (gy _ _ (zAu rfl rfl (fun gd => ?_) (fun gd => ?_))))))
   ·
    subst gd
    refine zAa (w_p (zAi (v := v) rfl rfl) rfl (w_p (zAi (v := .slice _ _ _) rfl rfl) rfl (zAz rfl rfl (w_p (zA3 underlying40 sizeOf43 rfl rfl rfl rfl (i := _) rfl (by omega)) rfl (w_p (zAj isAgg43 hs.drop rfl rfl hx) rfl ?_)))))
    refine zBb (ps := [(0, _)]) (pv := [(0, .slice _ _ _)]) (cs := [_]) zAc rfl rfl (fun w => Try_HWa_fb6 _ _ _ w) hs (fun hG hH gz => ?_)
    refine zCk (X := (_ :: [])) (B := OB) (rows := [[_]]) (sz := 1) (bytes := 24) zAc underlying40 Try_info43 rfl rfl rfl rfl rfl rfl rfl rfl rfl gz hown (zBt (i := 0) rfl (by simp) rfl) rfl (by simp) (by simp [Value.oneCell']) (by simp only [maxLen]; omega) (by omega) (fun gA hO gB gC gf => ?_)
    replace gf := (show St _ _ (_ :: gB ++ (FB ++ (_ :: F))) from gf)
    refine w_p (zAo (v := gA) rfl rfl) rfl (zAd (zAl (zAb (gh _ _ (zAa (zAz rfl rfl (w_p (zBg rfl rfl rfl rfl (by omega) (by omega)) rfl ?_)))))))
    refine zBe rfl rfl (zAd (zAb (gg _ _ (nxI ((felt l.bunches).length - (i + 1)) (by omega) ?_))))
    exact ⟨i + 1, _,_,_, rfl, by omega, rfl, by rw [filt_yes hi2 hsk]; exact own_el gC, by rw [filt_yes hi2 hsk]; exact hel.snoc hsx0 hnx, gf.tail⟩
   subst gd
   refine zAs (zAl (zAb (gh _ _ (zAa (zAz rfl rfl (w_p (zBg rfl rfl rfl rfl (by omega) (by omega)) rfl (zBe rfl rfl (zAd (zAb (gg _ _ (nxI ((felt l.bunches).length - (i + 1)) (by omega) ?_)))))))))))
   exact ⟨i + 1, v, OB, ws, rfl, by omega, rfl, by rw [filt_no hi2 hsk]; exact hown, by rw [filt_no hi2 hsk]; exact hel, hs⟩
  try simp only [zS] at g7
  refine zBl (zAm (zAm (zA0 (zAb (gm _ _ (zAe (fun hX gE => (zAa (w_p (zAi (v := v) rfl rfl) rfl (w_p (zAo (v := v) rfl rfl) rfl ?_))))))))))
  refine zAd (zAb (gE _ _ (zAy (zA1 (l := [.tmp 4]) (vs := [_]) rfl ⟨⟨rfl, show _ = (v : Value) from rfl⟩, trivial⟩ ?_))))
  have hin : i = (felt l.bunches).length := by omega
  subst hin
  rw [List.take_length] at hown hel
  obtain ⟨aO, cO, rfl, hslO⟩ := own_sl_id (w0 := w0) hown hel.1 FB
  exact ⟨OB ++ FB, ws, aO, cO, rfl, hslO, hel.app, zEg (by rw [List.append_assoc]; exact hs)⟩

end Go.Proofs.Hn
/- Plain laws of the hand layer for those above it: hands of each grade in a truth; a list whose things are changed one by one. No program in sight. No conditions. -/
namespace Go.Rt.Tg
open Go.Rt Go.Rt.Ha
def grTo (l : Lot) (h : List Int) (sc : Nat → Int) (k : Nat) : List Int := (List.range l.grades.length).map fun j : Nat => ofSum l h sc (j : Int) k
theorem gr_len (l : Lot) (h : List Int) (sc : Nat → Int) (k : Nat) : (grTo l h sc k).length = l.grades.length := by simp [grTo]
theorem gr_get {l : Lot} {h : List Int} {sc : Nat → Int} {k g : Nat} (hg : g < l.grades.length) : (grTo l h sc k).getD g 0 = ofSum l h sc (g : Int) k := by
  simp [grTo, List.getD, hg]
theorem gr_at {l : Lot} {h : List Int} {sc : Nat → Int} {k g : Nat} (hg : g < (grTo l h sc k).length) : (grTo l h sc k)[g] = ofSum l h sc (g : Int) k := by
  simp [grTo]
theorem gr_zero (l : Lot) (h : List Int) (sc : Nat → Int) : grTo l h sc 0 = List.replicate l.grades.length 0 := by
  apply List.ext_getElem
  · simp [grTo]
  · intro i h1 h2; simp [grTo, ofSum]
theorem gr_set {l : Lot} {h : List Int} {sc : Nat → Int} {k g : Nat} (hg : ofG l.grades 0 (at_ h k) (sc k) = (g : Int)) (hl : g < l.grades.length) : (grTo l h sc k).set g ((grTo l h sc k).getD g 0 + at_ h k) = grTo l h sc (k + 1) := by
  rw [gr_get hl]
  apply List.ext_getElem
  · simp [grTo]
  · intro i h1 h2
    simp only [grTo, List.getElem_set, List.getElem_map, List.getElem_range, ofSum]
    by_cases e : g = i
    · subst e; rw [if_pos rfl, if_pos hg]
    · rw [if_neg e, if_neg (by rw [hg]; omega)]; omega
theorem gr_no {l : Lot} {h : List Int} {sc : Nat → Int} {k : Nat} (hg : ofG l.grades 0 (at_ h k) (sc k) = -1) : grTo l h sc (k + 1) = grTo l h sc k := by
  apply List.ext_getElem
  · simp [grTo]
  · intro i h1 h2
    simp only [grTo, List.getElem_map, List.getElem_range, ofSum]
    rw [hg, if_neg (by omega)]; omega
theorem total_in {l : Lot} (hc : (check l).2.2 = 0) {h : List Int} (hw : h ∈ Ha.ways l 0) {sc : Nat → Int} (hs : ∀ b, b < l.bunches.length → (bunchOf l b).slo ≤ sc b ∧ sc b ≤ (bunchOf l b).shi) {g : Nat} (hg : g < l.grades.length) :
    (totalP l g).2 = 0 ∧ (totalP l g).1.1 ≤ ofSum l h sc g l.bunches.length ∧ ofSum l h sc g l.bunches.length ≤ (totalP l g).1.2 := by
  have hok := check_ok hc
  have hE : enterE l (idxE (g : Int) l.grades.length) = 0 := by
    unfold enterE
    rw [if_neg (by simp [hc]), idx_fine (by omega), if_neg (by simp), if_neg (List.ne_nil_of_mem hw)]
  unfold totalP
  rw [if_neg (by simp [hE])]
  have h1 := (tot_facts l g (Ha.ways l 0) (72,0)).2.2 h hw
  have h2 := sum_in (l := l) (h := h) (sc := sc) (fun b hb => by have := way_at hok hw (b := b) hb; omega) hs g _ (Nat.le_refl _)
  unfold sums at h1
  exact ⟨rfl, Int.le_trans h1.1 h2.1, Int.le_trans h2.2 h1.2⟩
def gradeAt (l : Lot) (i : Nat) : Nat := i % l.grades.length
def midTo {α : Type} (f : Nat → α → α) (rs : List α) (n : Nat) : List α := (rs.take n).mapIdx f ++ rs.drop n
theorem mid_zero {α : Type} (f : Nat → α → α) (rs : List α) : midTo f rs 0 = rs := by simp [midTo]
theorem zJf {α : Type} (f : Nat → α → α) (rs : List α) (n : Nat) : (midTo f rs n).length = rs.length := by simp [midTo]; omega
theorem mid_end {α : Type} (f : Nat → α → α) (rs : List α) : midTo f rs rs.length = rs.mapIdx f := by simp [midTo]
theorem mid_get {α : Type} {f : Nat → α → α} {rs : List α} {i : Nat} (hi : i < rs.length) (hi2 : i < (midTo f rs i).length) : (midTo f rs i)[i] = rs[i] := by
  apply Option.some.inj
  rw [← List.getElem?_eq_getElem hi2, ← List.getElem?_eq_getElem hi]
  show ((rs.take i).mapIdx f ++ rs.drop i)[i]? = _
  rw [List.getElem?_append_right (by simp; omega)]
  simp [show min i rs.length = i by omega]
theorem mid_set {α : Type} {f : Nat → α → α} {rs : List α} {i : Nat} (hi : i < rs.length) : (midTo f rs i).set i (f i rs[i]) = midTo f rs (i + 1) := by
  apply List.ext_getElem?
  intro k
  unfold midTo
  rw [List.getElem?_set]
  by_cases e : i = k
  · subst e
    rw [if_pos rfl, if_pos (by simp; omega), List.getElem?_append_left (by simp; omega)]
    simp [hi]
  · rw [if_neg e]
    by_cases h : k < i
    · rw [List.getElem?_append_left (by simp; omega), List.getElem?_append_left (by simp; omega)]
      simp only [List.getElem?_mapIdx, List.getElem?_take, if_pos h, if_pos (show k < i + 1 by omega)]
    · rw [List.getElem?_append_right (by simp; omega), List.getElem?_append_right (by simp; omega)]
      simp only [List.length_mapIdx, List.length_take, List.getElem?_drop]
      congr 1
      omega
end Go.Rt.Tg
set_option maxRecDepth 20000
namespace Go.Proofs.Tg
open Go.Proofs.Tryz
open Go.Rt Go.Rt.Ha Go.Rt.Tg Go.Proofs.Hn
attribute [local irreducible] WL WC Con Yd At Ats Sl Agree DW
theorem zDb : Tryz.prog.info? 3 = some Tryz.t3 := by kernel_rfl
theorem c9 {w0 w : World} {F : List (Nat × Obj)} (l : Lot) (q : At3) (hm : LIn w0 F l q) (hok : l.Ok) (hW : Ha.ways l 0 ≠ []) (z : Int) (hz : 0 ≤ z ∧ z ≤ 65535) (ay : Option Addr) (cy : Nat) (y : List Int) (hyl : y.length ≤ 9223372036854775807) (hys : Sl w0 F ay 1 (y.map fun n => [Value.int .u8 n])) (hyr : ∀ z ∈ y, 0 ≤ z ∧ z ≤ 255) (d : Int) (hd : 0 ≤ d ∧ d ≤ 255) (hs : St w0 w F) :
  Con Tryz.prog 9 [.agg (l.cells q).toArray, .agg #[.int .u16 z, .slice ay y.length cy, .int .u8 d]] w fun v w' => ∃ (h : List Int) (B : List (Nat × Obj)) (a : Option Addr) (c : Nat), h ∈ Ha.ways l 0 ∧ v = .slice a l.grades.length c ∧ Sl w0 B a 1 ((grTo l h (scOf l y) l.bunches.length).map fun x => [Value.int .i64 x]) ∧ St w0 w' (B ++ F) := by
  refine zAt (n := 61) func9 rfl rfl (zNl rfl) ?_
  have hlb := hok.lb
  have hlg := hok.lg
  refine zAe (fun K2 gi => (zAa (zCa (v := .agg #[.slice _ _ _, .slice _ _ _, .slice _ _ _]) (cs := [_,_,_]) zAc rfl rfl rfl hs (fun b3 w4 gj => ?_))))
  refine zCa (v := .agg #[.int _ _, .slice _ _ _, .int _ _]) (cs := [_,_,_]) zAc rfl rfl rfl gj (fun b6 w7 gd => ?_)
  refine zA5 rfl rfl (zAd (zAb (gi _ _ (zAe (fun gz gk => (zAa (w_p (zA4 (vs := [_,_,_]) isAgg26 sizeOf26 gd rfl rfl (zAk (i := 1) (vs := [_,_,_]) rfl rfl)) rfl ?_)))))))
  refine zAr zAc call6 rfl rfl rfl rfl ((by have h := c6 l q hm.cons.cons hok none 0 [] (by simp) (Sl.nil _ _) gd; rw [waysR_nil] at h; exact h)) ?_
  rintro _ gA ⟨WB, wv, aW, cW, rfl, hslW, helW, g7⟩
  replace g7 := (show St _ _ (WB ++ (_ :: _ :: F)) from g7)
  have g8 := St.perm (L := WB ++ ([_,_] ++ F)) g7 (zBc WB [_,_] _)
  replace g8 := (show St _ _ (_ :: _ :: (WB ++ F)) from g8)
  refine w_p (zAo (v := .slice _ _ _) rfl rfl) rfl (zAd (zAb (gk _ _ (zAe (fun gB gm => ?_)))))
  have hfl : (felt l.bunches).length ≤ 4096 := by have h := zJo hok (Nat.le_refl l.bunches.length); rw [zJp] at h; exact h
  have hwl : (Ha.ways l 0).length ≤ (felt l.bunches).length := List.length_filter_le _ _
  have hwp : 0 < (Ha.ways l 0).length := List.length_pos_iff.2 hW
  have hzm := Int.emod_nonneg z (show ((Ha.ways l 0).length : Int) ≠ 0 by omega)
  have hzl := Int.emod_lt_of_pos z (show 0 < ((Ha.ways l 0).length : Int) by omega)
  obtain ⟨u, hu⟩ : ∃ u : Nat, z % ((Ha.ways l 0).length : Int) = (u : Int) := ⟨(z % ((Ha.ways l 0).length : Int)).toNat, by omega⟩
  have hu2 : u < (Ha.ways l 0).length := by omega
  obtain ⟨bx, ox, e2, q2, ha, hx0, hsx0, _⟩ := el_at hslW helW hu2
  subst ha
  have hx1 := hx0.top (F := F)
  obtain ⟨h, hh⟩ : ∃ h, h = (Ha.ways l 0)[u] := ⟨_, rfl⟩
  rw [← hh] at hx1 hsx0
  have hin : h ∈ (Ha.ways l 0) := by rw [hh]; exact List.getElem_mem hu2
  have hfa := felt_at hok (zH3 hin)
  have hhl := hfa.1
  have hh12 := hfa.2
  refine zCn [] [(0,0),(1,0),(2,1),(3,0),(4,0),(5,0),(6,0),(7,0),(8,1),(9,1),(10,0),(11,1),(12,2),(13,0),(14,0)] zCb (zEn (by kernel_rfl)) g8 (fun gC g0 => ?_)
  refine d_w rfl (fun _ => zAi (v := .slice _ _ _) rfl rfl) rfl ?_
  refine d_w rfl (fun _ => zAf (o := 0) (i := 0) underlying35 rfl sizeOf32 rfl rfl rfl) rfl ?_
  refine zBd rfl zAc rfl g0 (fun _ hq => (zAj isAgg32 hq rfl rfl (zAk (i := 0) (vs := [_]) rfl rfl))) ?_
  refine d_w rfl (fun _ => y_u16int (by rw [underlying32]; rfl) underlying3 rfl rfl (by omega) (by omega)) rfl ?_
  refine d_w rfl (fun _ => zAi (v := .slice _ _ _) rfl rfl) rfl ?_
  refine d_w rfl (fun _ => zA8 underlying40 rfl rfl) rfl ?_
  refine d_w rfl (fun _ => y_rem rfl rfl rfl rfl (by omega) (by omega)) rfl ?_
  refine d_w rfl (fun _ => zA3 underlying40 sizeOf43 rfl rfl rfl rfl (i := u) (by omega) hu2) rfl ?_
  refine zBd rfl zAc rfl g0 (fun _ hq => (zAj isAgg43 hq.tail.tail rfl rfl hx1)) ?_
  refine zBd rfl zAc rfl g0 (fun _ hq => (zA4 (vs := [_,_,_]) isAgg26 sizeOf26 hq rfl rfl (zAk (i := 1) (vs := [_,_,_]) rfl rfl))) ?_
  refine d_w rfl (fun _ => zAf (o := 1) (i := 1) underlying35 rfl sizeOf33 rfl rfl rfl) rfl ?_
  refine zBd rfl zAc rfl g0 (fun _ hq => (zAj isAgg33 hq rfl rfl (zAk (i := 0) (vs := [_]) rfl rfl))) ?_
  refine zCq rfl ?_
  refine zAr zAc call39 rfl rfl rfl rfl (c39 l q hm.app.cons.cons hok _ _ y hyl hys.app.cons.cons hyr g0) ?_
  rintro _ gE ⟨SB, aS, cS, rfl, hslS, g3⟩
  replace g3 := (show St _ _ (SB ++ (_ :: _ :: WB ++ (F))) from g3)
  refine zAd (qn ⟨g3.drop, ?_⟩)
  refine d_w rfl (fun _ => zAo (v := .slice _ _ _) rfl rfl) rfl ?_
  refine d_w rfl (fun _ => zAo (v := .slice _ _ _) rfl rfl) rfl ?_
  refine zCf ?_
  refine zAb (gm _ _ (zAe (fun gF gn => ?_)))
  have g4 := St.perm (L := SB ++ ([_,_] ++ _)) g3 (zBc SB [_,_] _)
  replace g4 := (show St _ _ (_ :: _ :: (SB ++ _)) from g4)
  obtain ⟨Z, hZ, hsZ⟩ := gen_Z g4
  have hb2 : Ats w0 Z b3 0 (l.cells q) := by rw [hZ]; exact ats_of (i := 1) (vs := l.cells q) g4 rfl rfl
  have hmZ : LIn w0 Z l q := by rw [hZ]; exact hm.app.app.cons.cons
  have hHZ : Sl w0 Z e2 1 (h.map fun x => [Value.int .i64 x]) := by rw [hZ]; exact hsx0.top.app.cons.cons
  have hSZ : Sl w0 Z aS 1 ((scTo l y l.bunches.length).map fun x => [Value.int .i64 x]) := by rw [hZ]; exact hslS.top.cons.cons
  refine zAa (w_p (zAf (o := 0) (i := 0) underlying26 rfl sizeOf22 rfl rfl rfl) rfl (w_p (zAj isAgg22 hsZ rfl rfl (show Ats _ _ _ _ [_] from Ats.part hb2 0 1)) rfl (w_p (zA8 underlying22 rfl rfl) rfl (zG6 (k := l.grades.length) zAc underlying43 zDb rfl rfl (by omega) rfl rfl rfl rfl rfl hsZ (fun g9 gG gq => ?_)))))
  refine w_p (zAo (v := .slice _ _ _) rfl rfl) rfl (zAd (zAb (gn _ _ (zAe (fun gH gr => (zAe (fun gI gt => (zAa (zA5 rfl rfl (zAd (zAb (gt _ _ (zAw ?_)))))))))))))
  refine zBs [9,10,30,31,32,33,34,35,36,37,38,39,40,41,42,43,44,45,46,47,48,49,50,51,52,53,54,55,56,57,58,59] [9] (fun kk vs w => ∃ (k : Nat), vs = [.int .i64 k] ∧ k ≤ l.bunches.length ∧ kk = l.bunches.length - k ∧ St w0 w ((g9, blk 3 (iv (grTo l h (scOf l y) k))) :: Z)) (l.bunches.length) ?_ ?_
  ·
   exact ⟨0, rfl, by omega, by omega, by rw [gr_zero]; exact gq⟩
  intro k vs μ gJ hI gK gf
  obtain ⟨k, rfl, hka, rfl, hs⟩ := hI
  refine zAe (fun gL gu => (zAe (fun gM gv => (zAa (zAz rfl rfl (w_p (zAi (v := .slice _ _ _) rfl rfl) rfl (w_p (zA8 underlying43 rfl rfl) rfl (w_p (zBw rfl rfl rfl rfl) rfl ?_))))))))
  refine zAd (zAb (gv _ _ (zAu rfl rfl (fun ga => ?_) (fun ga => ?_))))
  ·
   try simp only [zS] at ga
   refine zAs (zAb (gu _ _ (zAe (fun gN gg => (zAw ?_)))))
   refine zAe (fun gP gw => ?_)
   have hk2 : k < l.bunches.length := by omega
   have hkh : k < h.length := by omega
   have hks : k < (scTo l y l.bunches.length).length := by rw [sc_len]; exact hk2
   have hag := at_g hkh
   have hsc : (scTo l y l.bunches.length)[k] = scOf l y k := sc_at hks
   have hsi := sc_in hok (x := y) hk2
   obtain ⟨c1, o1, he1, hh1⟩ := zC9 hHZ hkh
   subst he1
   obtain ⟨c2x, o2x, he2, hsk1⟩ := zC9 hSZ hks
   subst he2
   have hk12 := hh12 k hk2
   have hog := zIh (at_ h k) (scOf l y k) l.grades 0 (by omega)
   refine zCn [] [(0,1),(1,0),(2,0),(3,0),(4,1),(5,0),(6,0),(7,0),(8,1),(9,2),(10,0)] zCb (zEn (by kernel_rfl)) hs (fun gQ g5 => ?_)
   refine zBd rfl zAc rfl g5 (fun _ hq => (zA4 (vs := [_,_,_]) isAgg26 sizeOf26 hq.tail rfl rfl hb2)) ?_
   refine d_w rfl (fun _ => zAi (v := .slice _ _ _) rfl rfl) rfl ?_
   refine d_w rfl (fun _ => zA2 rfl rfl) rfl ?_
   refine d_w rfl (fun _ => zA3 underlying43 sizeOf3 rfl rfl rfl rfl (i := k) rfl hkh) rfl ?_
   refine zBd rfl zAc rfl g5 (fun _ hq => (zAj isAgg3 hq.tail rfl rfl hh1)) ?_
   refine d_w rfl (fun _ => zAi (v := .slice _ _ _) rfl rfl) rfl ?_
   refine d_w rfl (fun _ => zA2 rfl rfl) rfl ?_
   refine d_w rfl (fun _ => zA3 underlying43 sizeOf3 rfl rfl rfl rfl (i := k) rfl hks) rfl ?_
   refine zBd rfl zAc rfl g5 (fun _ hq => (zAj isAgg3 hq.tail rfl rfl hsk1)) ?_
   refine zCq rfl ?_
   refine zAr zAc call40 rfl rfl rfl rfl ((c40 l q hmZ.cons _ _ g5).mono (fun v w2 x => by rw [← hag, hsc] at x; exact (show v = .int .i64 (ofG l.grades 0 (at_ h k) (scOf l y k)) ∧ _ from x))) ?_
   rintro _ gR ⟨rfl, g6⟩
   refine zAd (qn ⟨g6, ?_⟩)
   refine d_w rfl (fun _ => zCi rfl rfl) rfl ?_
   refine zCf ?_
   refine zAb (gw _ _ (zAe (fun gS gx => (zAa (zAz rfl rfl (w_p (zB2 rfl rfl rfl rfl) rfl (zAd (zAb (gx _ _ (zAu rfl rfl (fun gb => ?_) (fun gb => ?_)))))))))))
   ·
    try simp only [zS] at gb
    obtain ⟨g, hg⟩ : ∃ g : Nat, (ofG l.grades 0 (at_ h k) (scOf l y k)) = (g : Int) := ⟨(ofG l.grades 0 (at_ h k) (scOf l y k)).toNat, by omega⟩
    have hg2 : g < l.grades.length := by omega
    have hos := of_sum_in (sc := scOf l y) hh12 (g : Int) k (by omega)
    have hsg := gr_get (l := l) (h := h) (sc := scOf l y) (k := k) hg2
    refine zCn [12] [(0,0),(1,0),(2,0),(3,0),(4,0),(5,1),(6,0),(7,0),(8,0),(9,1),(10,0),(11,0),(12,3)] zCb (zEn (by kernel_rfl)) g6 (fun gU gc => ?_)
    refine d_w rfl (fun _ => zAi (v := .slice _ _ _) rfl rfl) rfl ?_
    refine d_w rfl (fun _ => zA2 rfl rfl) rfl ?_
    refine d_w rfl (fun _ => zAi (v := .slice _ _ _) rfl rfl) rfl ?_
    refine d_w rfl (fun _ => zA2 rfl rfl) rfl ?_
    refine d_w rfl (fun _ => zA3 underlying43 sizeOf3 rfl rfl rfl rfl (i := g) (by first | rfl | omega) (by omega)) rfl ?_
    refine zBd rfl zAc rfl gc (fun _ hq => (zAj isAgg3 hq rfl rfl (zB7 (i := 0) (j := g) rfl (by first | omega | rfl | (simp only [gr_len, sc_len, zL] <;> omega))))) ?_
    refine d_w rfl (fun _ => zAi (v := .slice _ _ _) rfl rfl) rfl ?_
    refine d_w rfl (fun _ => zA2 rfl rfl) rfl ?_
    refine d_w rfl (fun _ => zA3 underlying43 sizeOf3 rfl rfl rfl rfl (i := k) rfl hkh) rfl ?_
    refine zBd rfl zAc rfl gc (fun _ hq => (zAj isAgg3 hq.tail rfl rfl hh1)) ?_
    refine d_w rfl (fun _ => zBg rfl rfl rfl rfl (by omega) (by omega)) rfl ?_
    refine d_w rfl (fun _ => zA3 underlying43 sizeOf3 rfl rfl rfl rfl (i := g) (by first | rfl | omega) (by omega)) rfl ?_
    refine zDc rfl ?_
    refine zC0 (i := 0) (j := g) zAc sizeOf3 rfl rfl rfl rfl gc rfl (by first | omega | rfl | (simp only [gr_len, sc_len, zL] <;> omega)) (fun gV gh => ?_)
    refine zAd (qn ?_)
    refine zCf ?_
    refine zAl (zAb (gg _ _ (zAa (zAz rfl rfl (w_p (zBg rfl rfl rfl rfl (by omega) (by omega)) rfl (zBe rfl rfl (zAd (zAb (gf _ _ (nxI (l.bunches.length - (k + 1)) (by omega) ?_))))))))))
    first
      | exact ⟨k + 1, rfl, by omega, rfl, by rw [← gr_set hg hg2, hag]; exact gh⟩
      | exact ⟨k + 1, rfl, by omega, rfl, by rw [gr_no (by omega)]; exact gh⟩
   try simp only [zS] at gb
   refine zAs (zAl (zAb (gg _ _ (zAa (zAz rfl rfl (w_p (zBg rfl rfl rfl rfl (by omega) (by omega)) rfl (zBe rfl rfl (zAd (zAb (gf _ _ (nxI (l.bunches.length - (k + 1)) (by omega) ?_)))))))))))
   first
     | exact ⟨k + 1, rfl, by omega, rfl, by rw [← gr_set hg hg2, hag]; exact g6⟩
     | exact ⟨k + 1, rfl, by omega, rfl, by rw [gr_no (by omega)]; exact g6⟩
  try simp only [zS] at ga
  refine zBl (zAm (zAm (zA0 (zAb (gr _ _ (zAe (fun gW gy => (zAa (w_p (zAi (v := .slice _ _ _) rfl rfl) rfl (w_p (zAo (v := .slice _ _ _) rfl rfl) rfl ?_))))))))))
  refine zAd (zAb (gy _ _ (zAy (zA1 (l := [.tmp 4]) (vs := [_]) rfl ⟨⟨rfl, show _ = (.slice _ _ _ : Value) from rfl⟩, trivial⟩ ?_))))
  have hkn : k = l.bunches.length := by omega
  subst hkn
  subst hZ
  exact ⟨h, (g9, blk 3 (iv (grTo l h (scOf l y) l.bunches.length))) :: (b6, blk 35 [.int .u16 z, .slice ay y.length cy, .int .u8 d]) :: (b3, blk 26 (l.cells q)) :: (SB ++ WB), some ⟨g9,0, none⟩, _, hin, rfl, zEa (i := 0) rfl, by simp only [List.append_assoc, List.cons_append]; exact hs⟩

end Go.Proofs.Tg
/- Plain words of the shop layer: markets, their errors. No conditions. -/
namespace Go.Rt.Sh
structure Room where
  name : ByteArray
  lo : Int
  hi : Int
  fro : Int
  las : Int
structure Shop where
  name : ByteArray
  day : Int
  want : Int
structure Train where
  room : Int
  shop : Int
  days : Int
  cap : Int
structure Market where
  rooms : List Room
  shops : List Shop
  trains : List Train
def Room.cells (r : Room) : List Value := [.string r.name, .int .i64 r.lo, .int .i64 r.hi, .int .i64 r.fro, .int .i64 r.las]
def Shop.cells (s : Shop) : List Value := [.string s.name, .int .i64 s.day, .int .i64 s.want]
def Train.cells (t : Train) : List Value := [.int .i64 t.room, .int .i64 t.shop, .int .i64 t.days, .int .i64 t.cap]
structure At3 where
  ar : Option Addr
  cr : Nat
  az : Option Addr
  cs : Nat
  at_ : Option Addr
  ct : Nat
def Market.cells (m : Market) (p : At3) : List Value := [.slice p.ar m.rooms.length p.cr, .slice p.az m.shops.length p.cs, .slice p.at_ m.trains.length p.ct]
def rrows (l : List Room) : List (List Value) := l.map Room.cells
def srows (l : List Shop) : List (List Value) := l.map Shop.cells
def trows (l : List Train) : List (List Value) := l.map Train.cells
def strs (l : List ByteArray) : List Value := l.map Value.string
def firstE {α : Type} (err : List α → α → Int) : List α → Int → List α → Int × Int
  | _,_, [] => (0,0)
  | b, i, x :: l => if err b x = 0 then firstE err (b ++ [x]) (i + 1) l else (i, err b x)
theorem zCe {α : Type} {err : List α → α → Int} {l : List α} {i : Nat} (hi : i < l.length) (h : err (l.take i) l[i] = 0) : firstE err (l.take i) i (l.drop i) = firstE err (l.take (i + 1)) (i + 1 : Nat) (l.drop (i + 1)) := by
  rw [List.drop_eq_getElem_cons hi]
  simp only [firstE, h, if_true]
  rw [List.take_succ_eq_append_getElem hi]; rfl
theorem zAn {α : Type} {err : List α → α → Int} {l : List α} {i : Nat} (hi : i < l.length) (h : err (l.take i) l[i] ≠ 0) : firstE err (l.take i) i (l.drop i) = ((i : Int), err (l.take i) l[i]) := by
  rw [List.drop_eq_getElem_cons hi]
  simp only [firstE, if_neg h]
theorem zBh {α : Type} {err : List α → α → Int} {l : List α} {i : Nat} (hi : l.length ≤ i) (b : List α) : firstE err b i (l.drop i) = (0,0) := by
  rw [List.drop_of_length_le hi]; rfl
def nameE (before : List ByteArray) (s : ByteArray) : Int := if nmOk s then (if has before s then 5 else 0) else 6
def roomOwn (r : Room) : Int := if out 0 60 r.lo || out 0 60 r.hi || (out 0 9 r.fro || out 0 9 r.las) then 7 else if decide (r.hi < r.lo) || decide (r.las < r.fro) then 2 else 0
def shopOwn (s : Shop) : Int := if out 0 9 s.day || out 1 60 s.want then 7 else 0
def roomE (before : List Room) (r : Room) : Int := if nameE (before.map (·.name)) r.name ≠ 0 then nameE (before.map (·.name)) r.name else roomOwn r
def shopE (before : List Shop) (s : Shop) : Int := if nameE (before.map (·.name)) s.name ≠ 0 then nameE (before.map (·.name)) s.name else shopOwn s
def trainE (m : Market) (_before : List Train) (t : Train) : Int := if out 0 (m.rooms.length - 1) t.room || out 0 (m.shops.length - 1) t.shop then 4 else if out 0 5 t.days || out 1 60 t.cap then 7 else 0
def failE {α : Type} (err : List α → α → Int) (most : Int) (l : List α) : Int × Int := if most < l.length then (0,3) else firstE err [] 0 l
def check (m : Market) : Int × Int × Int :=
  if (failE roomE 3 m.rooms).2 ≠ 0 then (1, failE roomE 3 m.rooms) else if (failE shopE 4 m.shops).2 ≠ 0 then (2, failE shopE 4 m.shops) else if (failE (trainE m) 6 m.trains).2 ≠ 0 then (3, failE (trainE m) 6 m.trains) else (0,0,0)
end Go.Rt.Sh
set_option maxRecDepth 20000
namespace Go.Proofs.Sb
open Go.Proofs.Tryz
open Go.Rt Go.Rt.Sh
attribute [local irreducible] WL WC Con Yd At Ats Sl Agree DW
theorem Try_SC_fb0 (x0 : Int) (x1 : Go.Fn) (a1 c1 : Array Value) (w : World) : (Instr.build 177 [(0, .int .i64 x0),(1, .func x1 a1 c1)].toArray).run Tryz.prog w = .ok (.agg #[.int .i64 x0, .func x1 a1 c1]) w := by kernel_rfl
theorem Try_SC_fb1 (x0 : Int) (x1 : Go.Fn) (a1 c1 : Array Value) (x2 : Int) (x3 : Go.Fn) (a3 c3 : Array Value) (w : World) : (Instr.buildSlice 179 2 [(0, .agg #[.int .i64 x0, .func x1 a1 c1]),(1, .agg #[.int .i64 x2, .func x3 a3 c3])].toArray).run Tryz.prog w = .ok (.slice (some ⟨w.heap.size, 0, none⟩) 2 2) (w.alloc (Go.Rt.blk 177 [.int .i64 x0, .func x1 a1 c1, .int .i64 x2, .func x3 a3 c3])) := by kernel_rfl
theorem c117 {w0 w : World} {F : List (Nat × Obj)} (a : Option Addr) (c : Nat) (l : List ByteArray) (hl : l.length ≤ 9223372036854775807) (ha : Sl w0 F a 1 (l.map fun x => [Value.string x])) (s : ByteArray) (hs : St w0 w F) :
  Con Tryz.prog 117 [.slice a l.length c, .string s] w fun v w' => (∃ z, v = .int .i64 z ∧ decide (0 ≤ z) = has l s) ∧ St w0 w' F := by
  refine zAt (n := 19) func117 rfl rfl (zNl rfl) ?_
  refine zAe (fun K2 g4 => (zAa (zA5 rfl rfl (zAd (zAb (g4 _ _ (zAe (fun K4 g5 => (zAe (fun K6 g6 => (zAa (w_p (zAi (v := .slice _ _ _) rfl rfl) rfl ?_))))))))))))
  refine w_p (zA8 underlying58 rfl rfl) rfl (w_p (zAi (v := _) rfl rfl) rfl (zAd (zAb (g6 _ _ (zAw ?_)))))
  refine zBs [4,5,8,9,10,11,12,13,14,15,16,17,18] [8] (fun k vs w => ∃ i : Nat, vs = [.int .i64 i] ∧ i ≤ l.length ∧ k = l.length - i ∧ has (l.take i) s = false ∧ St w0 w F) (l.length) ?_ ?_
  ·
   exact ⟨0, rfl, by omega, by omega, by simp [has], hs⟩
  intro k vs μ w9 hI K8 g7
  obtain ⟨i, rfl, hia, rfl, hpre, hs⟩ := hI
  refine zAe (fun gg g8 => (zAa (w_p (zBw rfl rfl rfl rfl) rfl (zAd (zAb (g8 _ _ (zAe (fun gh g9 => (zAu rfl rfl (fun g0 => ?_) (fun g0 => ?_))))))))))
  ·
   try simp only [zS] at g0
   refine zAs (zAb (g9 _ _ (zAe (fun gi ga => (zAw ?_)))))
   refine zAe (fun gj gb => (zAa (zAz rfl rfl (zBe rfl rfl (zAd (zAb (gb _ _ (zAe (fun gk gc => ?_)))))))))
   have hi2 : i < l.length := by omega
   obtain ⟨ba, oa, rfl, hxa⟩ := sl_strs ha hi2
   refine zAa (w_p (zAi (v := .string _) rfl rfl) rfl (w_p (zAi (v := .slice _ _ _) rfl rfl) rfl (zAz rfl rfl (w_p (zA3 underlying58 sizeOf9 rfl rfl rfl rfl (i := _) rfl (by omega)) rfl (w_p (zAj isAgg9 hs rfl rfl hxa) rfl ?_)))))
   refine w_p (y_strEq rfl rfl rfl rfl) rfl (zAd (zAb (gc _ _ (zAu rfl rfl (fun g3 => ?_) (fun g3 => ?_)))))
   ·
    try simp only [zS] at g3
    refine zAe (fun gm gd => (zAa (zAz rfl rfl (zBe rfl rfl (zAd (zAb (gd _ _ (zAy (zAv (zAg (zAg (zAv (zAg (zA1 (l := [.tmp 4]) (vs := [_]) rfl ⟨⟨rfl, (rfl : _ = Value.int _ _)⟩, trivial⟩ ?_))))))))))))))
    first
      | exact ⟨⟨-1, rfl, by have hil : i = l.length := (by omega); subst hil; rw [List.take_length] at hpre; rw [hpre]; rfl⟩, hs⟩
      | exact ⟨⟨(i : Int), rfl, by rw [Bool.eq_iff_iff]; simp only [decide_eq_true_eq, has, List.any_eq_true]; exact ⟨fun _ => ⟨_, List.getElem_mem hi2, (by assumption : s = l[i]).symm⟩, fun _ => by omega⟩⟩, hs⟩
   try simp only [zS] at g3
   refine zAs (zAl (zAb (ga _ _ (zAa (w_p (zBg rfl rfl rfl rfl (by omega) (by omega)) rfl (zAz rfl rfl (zAd (zAb (g7 _ _ (nxI (l.length - (i + 1)) (by omega) ?_))))))))))
   exact ⟨i + 1, rfl, by omega, rfl, notmem_take hpre (by omega) (fun e => (by assumption : ¬ s = l[i]) e.symm), hs⟩
  try simp only [zS] at g0
  refine zBl (zAm (zAm (zA0 (zAb (g5 _ _ (zAe (fun gn gf => (zAa (zA5 rfl rfl (zAd (zAb (gf _ _ (zAy (zA1 (l := [.tmp 4]) (vs := [_]) rfl ⟨⟨rfl, (rfl : _ = Value.int _ _)⟩, trivial⟩ ?_))))))))))))))
  first
    | exact ⟨⟨-1, rfl, by have hil : i = l.length := (by omega); subst hil; rw [List.take_length] at hpre; rw [hpre]; rfl⟩, hs⟩
    | exact ⟨⟨(i : Int), rfl, by rw [Bool.eq_iff_iff]; simp only [decide_eq_true_eq, has, List.any_eq_true]; exact ⟨fun _ => ⟨_, List.getElem_mem hi2, (by assumption : s = l[i]).symm⟩, fun _ => by omega⟩⟩, hs⟩

theorem c115 {w0 w : World} {F : List (Nat × Obj)} (a : Option Addr) (c : Nat) (l : List ByteArray) (hl : l.length ≤ 9223372036854775807) (ha : Sl w0 F a 1 (l.map fun x => [Value.string x])) (s : ByteArray) (hs : St w0 w F) :
  Con Tryz.prog 115 [.slice a l.length c, .string s] w fun v w' => v = .bool (has l s) ∧ St w0 w' F := by
  refine zAt (n := 9) func115 rfl rfl (zNl rfl) ?_
  refine zAe (fun K2 g0 => (zAa (zA5 rfl rfl (zAd (zAb (g0 _ _ (zAe (fun K4 g3 => (zAa (w_p (zAi (v := .slice _ _ _) rfl rfl) rfl ?_))))))))))
  refine w_p (zAi (v := .string _) rfl rfl) rfl (zAr zAc call117 rfl rfl rfl rfl (c117 _ _ _ hl ha _ hs) ?_)
  rintro _ w6 ⟨⟨z, rfl, hz⟩, g4⟩
  refine w_p (zKa rfl rfl rfl rfl) rfl (w_p (zAo (v := .bool _) rfl rfl) rfl (zAd (zAb (g3 _ _ (zAy (zA1 (l := [.tmp 4]) (vs := [_]) rfl ⟨⟨rfl, (rfl : _ = Value.bool _)⟩, trivial⟩ ?_))))))
  exact ⟨congrArg Value.bool hz, g4⟩

theorem c113 {w0 w : World} {F : List (Nat × Obj)} (a : Option Addr) (c : Nat) (l : List ByteArray) (hl : l.length ≤ 9223372036854775807) (ha : Sl w0 F a 1 (l.map fun x => [Value.string x])) (s : ByteArray) (hls : s.size ≤ 9223372036854775807) (hs : St w0 w F) :
  Con Tryz.prog 113 [.string s, .slice a l.length c] w fun v w' => v = .bool (!nmOk s) ∧ St w0 w' F := by
  refine zAt (n := 8) func113 rfl rfl (zNl rfl) ?_
  refine zAe (fun K2 g0 => (zAa (zA5 rfl rfl (zAd (zAb (g0 _ _ (zAe (fun K4 g3 => (zAa (w_p (zAi (v := .string _) rfl rfl) rfl ?_))))))))))
  refine zAr zAc call32 rfl rfl rfl rfl (c32 _ (by omega) hs) ?_
  rintro _ w6 ⟨rfl, g4⟩
  refine w_p (zDz rfl rfl) rfl (w_p (zAo (v := .bool _) rfl rfl) rfl (zAd (zAb (g3 _ _ (zAy (zA1 (l := [.tmp 4]) (vs := [_]) rfl ⟨⟨rfl, (rfl : _ = Value.bool _)⟩, trivial⟩ ?_))))))
  exact ⟨rfl, g4⟩

theorem c114 {w0 w : World} {F : List (Nat × Obj)} (a : Option Addr) (c : Nat) (l : List ByteArray) (hl : l.length ≤ 9223372036854775807) (ha : Sl w0 F a 1 (l.map fun x => [Value.string x])) (s : ByteArray) (hls : s.size ≤ 9223372036854775807) (hs : St w0 w F) :
  Con Tryz.prog 114 [.string s, .slice a l.length c] w fun v w' => v = .bool (has l s) ∧ St w0 w' F := by
  refine zAt (n := 8) func114 rfl rfl (zNl rfl) ?_
  refine zAe (fun K2 g0 => (zAa (zA5 rfl rfl (zAd (zAb (g0 _ _ (zAe (fun K4 g3 => (zAa (w_p (zAi (v := .slice _ _ _) rfl rfl) rfl ?_))))))))))
  refine w_p (zAi (v := .string _) rfl rfl) rfl (zAr zAc call115 rfl rfl rfl rfl (c115 _ _ _ hl ha _ hs) ?_)
  rintro _ w6 ⟨rfl, g4⟩
  refine w_p (zAo (v := .bool _) rfl rfl) rfl (zAd (zAb (g3 _ _ (zAy (zA1 (l := [.tmp 4]) (vs := [_]) rfl ⟨⟨rfl, (rfl : _ = Value.bool _)⟩, trivial⟩ ?_)))))
  exact ⟨rfl, g4⟩

def nK : Nat → Nat
  | 0 => 113
  | _ => 114
def nE : Nat → Int
  | 0 => 6
  | _ => 5
def nIs (s : ByteArray) (l : List ByteArray) : Nat → Bool
  | 0 => !nmOk s
  | _ => has l s
def nCells : List Value := [.int .i64 6, .func (.func 113) #[] #[], .int .i64 5, .func (.func 114) #[] #[]]
theorem nflaw_at {w0 : World} {L : List (Nat × Obj)} {b i j : Nat} (hi : L[i]? = some (b, blk 177 nCells)) (hj : j < 2) : Ats w0 L b (0 + j * 2) [.int .i64 (nE j), .func (.func (nK j)) #[] #[]] := by
  match j, hj with
  | 0, _ => exact zAk hi rfl
  | 1, _ => exact zAk hi rfl
theorem nflaw_con {w0 w : World} {F : List (Nat × Obj)} (a : Option Addr) (c : Nat) (l : List ByteArray) (hl : l.length ≤ 9223372036854775807) (ha : Sl w0 F a 1 (l.map fun x => [Value.string x])) (s : ByteArray) (hls : s.size ≤ 9223372036854775807) (j : Nat) (hj : j < 2) (hs : St w0 w F) :
    FCon Tryz.prog (.func (.func (nK j)) #[] #[]) [.string s, .slice a l.length c] w fun v w' => v = .bool (nIs s l j) ∧ St w0 w' F := by
  match j, hj with
  | 0, _ => exact zDd call113 (c113 a c l hl ha s hls hs)
  | 1, _ => exact zDd call114 (c114 a c l hl ha s hls hs)
theorem nE_yes {s : ByteArray} {l : List ByteArray} {j : Nat} (hj : j < 2) (h : nIs s l j = true) (hb : ∀ q < j, nIs s l q = false) : nE j = nameE l s := by
  match j, hj with
  | 0, _ => simp only [nIs, Bool.not_eq_true'] at h; simp [nameE, nE, h]
  | 1, _ =>
    have h0 := hb 0 (by omega)
    simp only [nIs, Bool.not_eq_false'] at h h0
    simp [nameE, nE, h, h0]
theorem nE_no {s : ByteArray} {l : List ByteArray} (hb : ∀ q < 2, nIs s l q = false) : 0 = nameE l s := by
  have h0 := hb 0 (by omega); have h1 := hb 1 (by omega)
  simp only [nIs, Bool.not_eq_false'] at h0 h1
  simp [nameE, h0, h1]
theorem c99 {w0 w : World} {F : List (Nat × Obj)} (a : Option Addr) (c : Nat) (l : List ByteArray) (hl : l.length ≤ 9223372036854775807) (ha : Sl w0 F a 1 (l.map fun x => [Value.string x])) (s : ByteArray) (hls : s.size ≤ 9223372036854775807) (hs : St w0 w F) :
  Con Tryz.prog 99 [.string s, .slice a l.length c] w fun v w' => v = .int .i64 (nameE l s) ∧ St w0 w' F := by
  refine zAt (n := 23) func99 rfl rfl (zNl rfl) ?_
  refine zAe (fun K2 g6 => (zAa (zA5 rfl rfl (zAd (zAb (g6 _ _ (zAe (fun K4 g7 => (zAe (fun K6 g8 => (zAa (w_p (zBv (ps := [(0, _),(1, _)]) (pv := [(0, .int _ _),(1, .func _ _ _)]) rfl rfl (fun w => Try_SC_fb0 _ _ _ _ w)) rfl ?_))))))))))))
  refine w_p (zBv (ps := [(0, _),(1, _)]) (pv := [(0, .int _ _),(1, .func _ _ _)]) rfl rfl (fun w => Try_SC_fb0 _ _ _ _ w)) rfl (zBb (ps := [(0, _),(1, _)]) (pv := [(0, .agg #[.int _ _, .func _ _ _]),(1, .agg #[.int _ _, .func _ _ _])]) (cs := [_,_,_,_]) zAc rfl rfl (fun w => Try_SC_fb1 _ _ _ _ _ _ _ _ w) hs (fun b7 w8 g9 => ?_))
  refine w_p (zA8 underlying179 rfl rfl) rfl (w_p (zAi (v := _) rfl rfl) rfl (zAd (zAb (g8 _ _ (zAw ?_)))))
  refine zBs [4,6,11,12,13,14,15,16,17,18,19,20,21,22] [11] (fun k vs w => ∃ j : Nat, vs = [.int .i64 j] ∧ j ≤ 2 ∧ k = 2 - j ∧ (∀ q < j, nIs s l q = false) ∧ St w0 w ((b7, blk 177 nCells) :: F)) (2) ?_ ?_
  ·
   exact ⟨0, rfl, by omega, by omega, (fun q hq => by omega), g9⟩
  intro k vs μ gk hI gm ga
  obtain ⟨j, rfl, hja, rfl, hfl, hs⟩ := hI
  refine zAe (fun gn gb => (zAa (w_p (zBw rfl rfl rfl rfl) rfl (zAd (zAb (gb _ _ (zAe (fun gq gc => (zAu rfl rfl (fun g3 => ?_) (fun g3 => ?_))))))))))
  ·
   try simp only [zS] at g3
   refine zAs (zAb (gc _ _ (zAe (fun gr gd => (zAw ?_)))))
   refine zAe (fun gt gf => ?_)
   have hj2 : j < 2 := by omega
   have hxq := nflaw_at (w0 := w0) (L := (b7, blk 177 nCells) :: F) (i := 0) rfl hj2
   refine zAa (w_p (zA3 underlying179 sizeOf177 rfl rfl rfl rfl (i := _) rfl (by omega)) rfl (w_p (zA4 (vs := [_,_]) isAgg177 sizeOf177 hs rfl rfl hxq) rfl (zBf (cs := [_,_]) zAc zeroValue177 rfl hs (fun gu gv gg => ?_))))
   refine zA6 (i := 0) (v := .agg #[.int _ _, .func _ _ _]) (vs := [_,_]) zAc sizeOf177 rfl rfl rfl rfl rfl (by simp [Value.oneCell']) gg rfl (zNl rfl) (fun gw g5 => ?_)
   refine zAd (zAb (gf _ _ (zAe (fun gx gh => (zAa (w_p (zAf (o := 1) (i := 1) underlying177 rfl sizeOf175 rfl rfl rfl) rfl (w_p (zAj isAgg175 g5 rfl rfl (zAk (i := 0) (vs := [_]) rfl rfl)) rfl ?_)))))))
   refine w_p (zAi (v := .string _) rfl rfl) rfl (w_p (zAi (v := .slice _ _ _) rfl rfl) rfl (zD9 zAc rfl rfl rfl rfl (nflaw_con a c l hl ha.cons.cons s hls j hj2 g5) ?_))
   rintro _ gy ⟨rfl, g0⟩
   refine zAd (zAb (gh _ _ (zAu rfl rfl (fun g4 => ?_) (fun g4 => ?_))))
   ·
    try simp only [zS] at g4
    refine zAe (fun gz gi => (zAa (w_p (zAf (o := 0) (i := 0) underlying177 rfl sizeOf36 rfl rfl rfl) rfl (w_p (zAj isAgg36 g0 rfl rfl (zAk (i := 0) (vs := [_]) rfl rfl)) rfl (zBe rfl rfl (zAd (zAb (gi _ _ (zAy (zAv (zAg (zAg (zAv (zAg (zA1 (l := [.tmp 4]) (vs := [_]) rfl ⟨⟨rfl, (rfl : _ = Value.int _ _)⟩, trivial⟩ ?_)))))))))))))))
    first
      | exact ⟨congrArg (Value.int .i64) (nE_yes hj2 (by assumption) hfl), g0.tail.tail⟩
      | (have hj2 : j = 2 := (by omega)
         subst hj2
         exact ⟨congrArg (Value.int .i64) (nE_no hfl), g0.tail.tail⟩)
   try simp only [zS] at g4
   refine zAs (zAl (zAb (gd _ _ (zAa (w_p (zBg rfl rfl rfl rfl (by omega) (by omega)) rfl (zAz rfl rfl (zAd (zAb (ga _ _ (nxI (2 - (j + 1)) (by omega) ?_))))))))))
   exact ⟨j + 1, rfl, by omega, rfl, (fun q hq => by rcases Nat.lt_or_ge q j with h | h; exact hfl q h; have hqj : q = j := (by omega); subst hqj; assumption), g0.tail⟩
  try simp only [zS] at g3
  refine zBl (zAm (zAm (zA0 (zAb (g7 _ _ (zAe (fun gA gj => (zAa (zA5 rfl rfl (zAd (zAb (gj _ _ (zAy (zA1 (l := [.tmp 4]) (vs := [_]) rfl ⟨⟨rfl, (rfl : _ = Value.int _ _)⟩, trivial⟩ ?_))))))))))))))
  first
    | exact ⟨congrArg (Value.int .i64) (nE_yes hj2 (by assumption) hfl), hs.tail⟩
    | (have hj2 : j = 2 := (by omega)
       subst hj2
       exact ⟨congrArg (Value.int .i64) (nE_no hfl), hs.tail⟩)

theorem sl_rrows {w0 : World} {F : List (Nat × Obj)} {a : Option Addr} {l : List Room} {i : Nat} (h : Sl w0 F a 5 (rrows l)) (hi : i < l.length) : ∃ b off, a = some ⟨b, off, none⟩ ∧ Ats w0 F b (off + i * 5) l[i].cells := by
  obtain ⟨b, off, ha, _, hat⟩ := h.at (i := i) (row := l[i].cells) (by simp [rrows, hi])
  exact ⟨b, off, ha, hat⟩
theorem c97 {w0 w : World} {F : List (Nat × Obj)} (a : Option Addr) (c : Nat) (l : List Room) (hl : l.length ≤ 9223372036854775807) (ha : Sl w0 F a 5 (rrows l)) (most : Int) (fv : Value) (err : List Room → Room → Int) (I : Nat → List (Nat × Obj) → Prop) (B0 : List (Nat × Obj)) (h0 : I 0 B0)
    (hp : (l.length : Int) ≤ most → ∀ (i : Nat) (hi : i < l.length) (X B : List (Nat × Obj)) (w : World), I i B → St w0 w (X ++ (B ++ F)) → FCon Tryz.prog fv [.int .i64 i, .agg l[i].cells.toArray] w fun v w' => v = .int .i64 (err (l.take i) l[i]) ∧ ∃ B', (err (l.take i) l[i] = 0 → I (i + 1) B') ∧ St w0 w' (X ++ (B' ++ F)))
    (hs : St w0 w (B0 ++ F)) : Con Tryz.prog 97 [.slice a l.length c, .int .i64 most, fv] w fun v w' => v = .tuple #[.int .i64 (failE err most l).1, .int .i64 (failE err most l).2] ∧ ∃ B', ((failE err most l).2 = 0 → I l.length B') ∧ St w0 w' (B' ++ F) := by
  refine zAt (n := 31) func97 rfl rfl (zNl rfl) ?_
  refine zAe (fun K2 g6 => (zAa (zA5 rfl rfl (zA5 rfl rfl (zAd (zAb (g6 _ _ (zAe (fun K4 g7 => (zAe (fun K6 g8 => (zAa (w_p (zAi (v := .slice _ _ _) rfl rfl) rfl ?_)))))))))))))
  refine w_p (zA8 underlying27 rfl rfl) rfl (zAz rfl rfl (w_p (zD5 rfl rfl rfl rfl) rfl (zAd (zAb (g8 _ _ (zAu rfl rfl (fun h7 => ?_) (fun h7 => ?_)))))))
  ·
   try simp only [zS] at h7
   refine zAe (fun K9 g9 => (zAa (zA5 rfl rfl (zA5 rfl rfl (zAd (zAb (g9 _ _ (zAy (zAg (zA1 (l := [.tmp 6, .tmp 7]) (vs := [_,_]) rfl ⟨⟨rfl, (rfl : _ = Value.int _ _)⟩, ⟨rfl, (rfl : _ = Value.int _ _)⟩, trivial⟩ ?_))))))))))
   first
     | (have e : failE err most l = (0,3) := by unfold failE; rw [if_pos (by omega)]
        rw [e]
        exact ⟨rfl, B0, fun h => absurd h (by decide), hs⟩)
     | (have e : failE err most l = firstE err [] 0 l := by unfold failE; rw [if_neg (by omega)]
        rw [e, hinv, zAn hi2 (by assumption)]
        exact ⟨rfl, B1, fun h => absurd h (by assumption), hs.tail⟩)
     | (have e : failE err most l = firstE err [] 0 l := by unfold failE; rw [if_neg (by omega)]
        have hil : i = l.length := by omega
        rw [e, hinv, zBh (by omega)]
        exact ⟨rfl, B, fun _ => by rw [← hil]; exact hI, hs⟩)
  try simp only [zS] at h7
  refine zAs (zAb (g7 _ _ (zAe (fun gq ga => (zAe (fun gr gb => (zAa (w_p (zAi (v := .slice _ _ _) rfl rfl) rfl (w_p (zA8 underlying27 rfl rfl) rfl ?_)))))))))
  refine w_p (zAi (v := _) rfl rfl) rfl (zAd (zAb (gb _ _ (zAw ?_))))
  refine zBs [6,7,8,9,10,17,18,19,20,21,22,23,24,25,26,27,28,29,30] [17] (fun k vs w => ∃ (i : Nat) (B : List (Nat × Obj)), vs = [.int .i64 i] ∧ i ≤ l.length ∧ k = l.length - i ∧ I i B ∧ firstE err [] 0 l = firstE err (l.take i) i (l.drop i) ∧ St w0 w (B ++ F)) (l.length) ?_ ?_
  ·
   exact ⟨0, B0, rfl, by omega, by omega, h0, by simp, hs⟩
  intro k vs μ gt hI gu gc
  obtain ⟨i, B, rfl, hia, rfl, hI, hinv, hs⟩ := hI
  refine zAe (fun gv gd => (zAa (w_p (zBw rfl rfl rfl rfl) rfl (zAd (zAb (gd _ _ (zAe (fun gw gf => (zAu rfl rfl (fun g3 => ?_) (fun g3 => ?_))))))))))
  ·
   try simp only [zS] at g3
   refine zAs (zAb (gf _ _ (zAe (fun gx gg => (zAw ?_)))))
   refine zAe (fun gy gh => ?_)
   have hi2 : i < l.length := by omega
   obtain ⟨bx, ox, rfl, hx⟩ := sl_rrows ha hi2
   refine zAa (zAz rfl rfl (w_p (zA3 underlying27 sizeOf50 rfl rfl rfl rfl (i := _) rfl (by omega)) rfl (w_p (zA4 (vs := [_,_,_,_,_]) isAgg50 sizeOf50 hs.drop rfl rfl hx) rfl (zBf (cs := [_,_,_,_,_]) zAc zeroValue50 rfl hs (fun gz gA gi => ?_)))))
   refine zBe rfl rfl (zA6 (i := 0) (v := .agg #[.string _, .int _ _, .int _ _, .int _ _, .int _ _]) (vs := [_,_,_,_,_]) zAc sizeOf50 rfl rfl rfl rfl rfl (by simp [Value.oneCell']) gi rfl (zNl rfl) (fun gB g5 => ?_))
   refine zAd (zAb (gh _ _ (zAe (fun gC gj => (zAa (w_p (zAi (v := fv) rfl rfl) rfl (zAz rfl rfl (w_p (zA4 (vs := [_,_,_,_,_]) isAgg50 sizeOf50 g5 rfl rfl (zAk (i := 0) (vs := [_,_,_,_,_]) rfl rfl)) rfl ?_))))))))
   refine zD9 zAc rfl rfl rfl rfl (hp (by omega) i hi2 [_] B _ hI g5) ?_
   rintro _ gE ⟨rfl, B1, hB1, g0⟩
   replace g0 := (show St _ _ (_ :: B1 ++ (F)) from g0)
   refine zBe rfl rfl (zAd (zAb (gj _ _ (zAe (fun gF gk => (zAa (zAz rfl rfl (w_p (zB2 rfl rfl rfl rfl) rfl (zAd (zAb (gk _ _ (zAu rfl rfl (fun g4 => ?_) (fun g4 => ?_)))))))))))))
   ·
    try simp only [zS] at g4
    refine zAe (fun gG gm => (zAa (zAz rfl rfl (zAz rfl rfl (zBe rfl rfl (zBe rfl rfl (zAd (zAb (gm _ _ (zAy (zAv (zAg (zAg (zAv (zAg (zA1 (l := [.tmp 6, .tmp 7]) (vs := [_,_]) rfl ⟨⟨rfl, (rfl : _ = Value.int _ _)⟩, ⟨rfl, (rfl : _ = Value.int _ _)⟩, trivial⟩ ?_))))))))))))))))
    first
      | (have e : failE err most l = (0,3) := by unfold failE; rw [if_pos (by omega)]
         rw [e]
         exact ⟨rfl, B0, fun h => absurd h (by decide), g0⟩)
      | (have e : failE err most l = firstE err [] 0 l := by unfold failE; rw [if_neg (by omega)]
         rw [e, hinv, zAn hi2 (by assumption)]
         exact ⟨rfl, B1, fun h => absurd h (by assumption), g0.tail⟩)
      | (have e : failE err most l = firstE err [] 0 l := by unfold failE; rw [if_neg (by omega)]
         have hil : i = l.length := by omega
         rw [e, hinv, zBh (by omega)]
         exact ⟨rfl, B, fun _ => by rw [← hil]; exact hI, g0⟩)
   try simp only [zS] at g4
   refine zAs (zAl (zAb (gg _ _ (zAa (w_p (zBg rfl rfl rfl rfl (by omega) (by omega)) rfl (zAz rfl rfl (zAd (zAb (gc _ _ (nxI (l.length - (i + 1)) (by omega) ?_))))))))))
   exact ⟨i + 1, B1, rfl, by omega, rfl, hB1 (by assumption), hinv.trans (zCe hi2 (by assumption)), g0.tail⟩
  try simp only [zS] at g3
  refine zBl (zAm (zAm (zA0 (zAb (ga _ _ (zAe (fun gH gn => (zAa (zA5 rfl rfl (zA5 rfl rfl (zAd (zAb (gn _ _ (zAy (zA1 (l := [.tmp 6, .tmp 7]) (vs := [_,_]) rfl ⟨⟨rfl, (rfl : _ = Value.int _ _)⟩, ⟨rfl, (rfl : _ = Value.int _ _)⟩, trivial⟩ ?_)))))))))))))))
  first
    | (have e : failE err most l = (0,3) := by unfold failE; rw [if_pos (by omega)]
       rw [e]
       exact ⟨rfl, B0, fun h => absurd h (by decide), hs⟩)
    | (have e : failE err most l = firstE err [] 0 l := by unfold failE; rw [if_neg (by omega)]
       rw [e, hinv, zAn hi2 (by assumption)]
       exact ⟨rfl, B1, fun h => absurd h (by assumption), hs.tail⟩)
    | (have e : failE err most l = firstE err [] 0 l := by unfold failE; rw [if_neg (by omega)]
       have hil : i = l.length := by omega
       rw [e, hinv, zBh (by omega)]
       exact ⟨rfl, B, fun _ => by rw [← hil]; exact hI, hs⟩)

theorem zKg {w0 : World} {F : List (Nat × Obj)} {a : Option Addr} {l : List Shop} {i : Nat} (h : Sl w0 F a 3 (srows l)) (hi : i < l.length) : ∃ b off, a = some ⟨b, off, none⟩ ∧ Ats w0 F b (off + i * 3) l[i].cells := by
  obtain ⟨b, off, ha, _, hat⟩ := h.at (i := i) (row := l[i].cells) (by simp [srows, hi])
  exact ⟨b, off, ha, hat⟩
theorem c100 {w0 w : World} {F : List (Nat × Obj)} (a : Option Addr) (c : Nat) (l : List Shop) (hl : l.length ≤ 9223372036854775807) (ha : Sl w0 F a 3 (srows l)) (most : Int) (fv : Value) (err : List Shop → Shop → Int) (I : Nat → List (Nat × Obj) → Prop) (B0 : List (Nat × Obj)) (h0 : I 0 B0)
    (hp : (l.length : Int) ≤ most → ∀ (i : Nat) (hi : i < l.length) (X B : List (Nat × Obj)) (w : World), I i B → St w0 w (X ++ (B ++ F)) → FCon Tryz.prog fv [.int .i64 i, .agg l[i].cells.toArray] w fun v w' => v = .int .i64 (err (l.take i) l[i]) ∧ ∃ B', (err (l.take i) l[i] = 0 → I (i + 1) B') ∧ St w0 w' (X ++ (B' ++ F)))
    (hs : St w0 w (B0 ++ F)) : Con Tryz.prog 100 [.slice a l.length c, .int .i64 most, fv] w fun v w' => v = .tuple #[.int .i64 (failE err most l).1, .int .i64 (failE err most l).2] ∧ ∃ B', ((failE err most l).2 = 0 → I l.length B') ∧ St w0 w' (B' ++ F) := by
  refine zAt (n := 31) func100 rfl rfl (zNl rfl) ?_
  refine zAe (fun K2 g6 => (zAa (zA5 rfl rfl (zA5 rfl rfl (zAd (zAb (g6 _ _ (zAe (fun K4 g7 => (zAe (fun K6 g8 => (zAa (w_p (zAi (v := .slice _ _ _) rfl rfl) rfl ?_)))))))))))))
  refine w_p (zA8 underlying28 rfl rfl) rfl (zAz rfl rfl (w_p (zD5 rfl rfl rfl rfl) rfl (zAd (zAb (g8 _ _ (zAu rfl rfl (fun h7 => ?_) (fun h7 => ?_)))))))
  ·
   try simp only [zS] at h7
   refine zAe (fun K9 g9 => (zAa (zA5 rfl rfl (zA5 rfl rfl (zAd (zAb (g9 _ _ (zAy (zAg (zA1 (l := [.tmp 6, .tmp 7]) (vs := [_,_]) rfl ⟨⟨rfl, (rfl : _ = Value.int _ _)⟩, ⟨rfl, (rfl : _ = Value.int _ _)⟩, trivial⟩ ?_))))))))))
   first
     | (have e : failE err most l = (0,3) := by unfold failE; rw [if_pos (by omega)]
        rw [e]
        exact ⟨rfl, B0, fun h => absurd h (by decide), hs⟩)
     | (have e : failE err most l = firstE err [] 0 l := by unfold failE; rw [if_neg (by omega)]
        rw [e, hinv, zAn hi2 (by assumption)]
        exact ⟨rfl, B1, fun h => absurd h (by assumption), hs.tail⟩)
     | (have e : failE err most l = firstE err [] 0 l := by unfold failE; rw [if_neg (by omega)]
        have hil : i = l.length := by omega
        rw [e, hinv, zBh (by omega)]
        exact ⟨rfl, B, fun _ => by rw [← hil]; exact hI, hs⟩)
  try simp only [zS] at h7
  refine zAs (zAb (g7 _ _ (zAe (fun gq ga => (zAe (fun gr gb => (zAa (w_p (zAi (v := .slice _ _ _) rfl rfl) rfl (w_p (zA8 underlying28 rfl rfl) rfl ?_)))))))))
  refine w_p (zAi (v := _) rfl rfl) rfl (zAd (zAb (gb _ _ (zAw ?_))))
  refine zBs [6,7,8,9,10,17,18,19,20,21,22,23,24,25,26,27,28,29,30] [17] (fun k vs w => ∃ (i : Nat) (B : List (Nat × Obj)), vs = [.int .i64 i] ∧ i ≤ l.length ∧ k = l.length - i ∧ I i B ∧ firstE err [] 0 l = firstE err (l.take i) i (l.drop i) ∧ St w0 w (B ++ F)) (l.length) ?_ ?_
  ·
   exact ⟨0, B0, rfl, by omega, by omega, h0, by simp, hs⟩
  intro k vs μ gt hI gu gc
  obtain ⟨i, B, rfl, hia, rfl, hI, hinv, hs⟩ := hI
  refine zAe (fun gv gd => (zAa (w_p (zBw rfl rfl rfl rfl) rfl (zAd (zAb (gd _ _ (zAe (fun gw gf => (zAu rfl rfl (fun g3 => ?_) (fun g3 => ?_))))))))))
  ·
   try simp only [zS] at g3
   refine zAs (zAb (gf _ _ (zAe (fun gx gg => (zAw ?_)))))
   refine zAe (fun gy gh => ?_)
   have hi2 : i < l.length := by omega
   obtain ⟨bx, ox, rfl, hx⟩ := zKg ha hi2
   refine zAa (zAz rfl rfl (w_p (zA3 underlying28 sizeOf71 rfl rfl rfl rfl (i := _) rfl (by omega)) rfl (w_p (zA4 (vs := [_,_,_]) isAgg71 sizeOf71 hs.drop rfl rfl hx) rfl (zBf (cs := [_,_,_]) zAc zeroValue71 rfl hs (fun gz gA gi => ?_)))))
   refine zBe rfl rfl (zA6 (i := 0) (v := .agg #[.string _, .int _ _, .int _ _]) (vs := [_,_,_]) zAc sizeOf71 rfl rfl rfl rfl rfl (by simp [Value.oneCell']) gi rfl (zNl rfl) (fun gB g5 => ?_))
   refine zAd (zAb (gh _ _ (zAe (fun gC gj => (zAa (w_p (zAi (v := fv) rfl rfl) rfl (zAz rfl rfl (w_p (zA4 (vs := [_,_,_]) isAgg71 sizeOf71 g5 rfl rfl (zAk (i := 0) (vs := [_,_,_]) rfl rfl)) rfl ?_))))))))
   refine zD9 zAc rfl rfl rfl rfl (hp (by omega) i hi2 [_] B _ hI g5) ?_
   rintro _ gE ⟨rfl, B1, hB1, g0⟩
   replace g0 := (show St _ _ (_ :: B1 ++ (F)) from g0)
   refine zBe rfl rfl (zAd (zAb (gj _ _ (zAe (fun gF gk => (zAa (zAz rfl rfl (w_p (zB2 rfl rfl rfl rfl) rfl (zAd (zAb (gk _ _ (zAu rfl rfl (fun g4 => ?_) (fun g4 => ?_)))))))))))))
   ·
    try simp only [zS] at g4
    refine zAe (fun gG gm => (zAa (zAz rfl rfl (zAz rfl rfl (zBe rfl rfl (zBe rfl rfl (zAd (zAb (gm _ _ (zAy (zAv (zAg (zAg (zAv (zAg (zA1 (l := [.tmp 6, .tmp 7]) (vs := [_,_]) rfl ⟨⟨rfl, (rfl : _ = Value.int _ _)⟩, ⟨rfl, (rfl : _ = Value.int _ _)⟩, trivial⟩ ?_))))))))))))))))
    first
      | (have e : failE err most l = (0,3) := by unfold failE; rw [if_pos (by omega)]
         rw [e]
         exact ⟨rfl, B0, fun h => absurd h (by decide), g0⟩)
      | (have e : failE err most l = firstE err [] 0 l := by unfold failE; rw [if_neg (by omega)]
         rw [e, hinv, zAn hi2 (by assumption)]
         exact ⟨rfl, B1, fun h => absurd h (by assumption), g0.tail⟩)
      | (have e : failE err most l = firstE err [] 0 l := by unfold failE; rw [if_neg (by omega)]
         have hil : i = l.length := by omega
         rw [e, hinv, zBh (by omega)]
         exact ⟨rfl, B, fun _ => by rw [← hil]; exact hI, g0⟩)
   try simp only [zS] at g4
   refine zAs (zAl (zAb (gg _ _ (zAa (w_p (zBg rfl rfl rfl rfl (by omega) (by omega)) rfl (zAz rfl rfl (zAd (zAb (gc _ _ (nxI (l.length - (i + 1)) (by omega) ?_))))))))))
   exact ⟨i + 1, B1, rfl, by omega, rfl, hB1 (by assumption), hinv.trans (zCe hi2 (by assumption)), g0.tail⟩
  try simp only [zS] at g3
  refine zBl (zAm (zAm (zA0 (zAb (ga _ _ (zAe (fun gH gn => (zAa (zA5 rfl rfl (zA5 rfl rfl (zAd (zAb (gn _ _ (zAy (zA1 (l := [.tmp 6, .tmp 7]) (vs := [_,_]) rfl ⟨⟨rfl, (rfl : _ = Value.int _ _)⟩, ⟨rfl, (rfl : _ = Value.int _ _)⟩, trivial⟩ ?_)))))))))))))))
  first
    | (have e : failE err most l = (0,3) := by unfold failE; rw [if_pos (by omega)]
       rw [e]
       exact ⟨rfl, B0, fun h => absurd h (by decide), hs⟩)
    | (have e : failE err most l = firstE err [] 0 l := by unfold failE; rw [if_neg (by omega)]
       rw [e, hinv, zAn hi2 (by assumption)]
       exact ⟨rfl, B1, fun h => absurd h (by assumption), hs.tail⟩)
    | (have e : failE err most l = firstE err [] 0 l := by unfold failE; rw [if_neg (by omega)]
       have hil : i = l.length := by omega
       rw [e, hinv, zBh (by omega)]
       exact ⟨rfl, B, fun _ => by rw [← hil]; exact hI, hs⟩)

theorem sl_trows {w0 : World} {F : List (Nat × Obj)} {a : Option Addr} {l : List Train} {i : Nat} (h : Sl w0 F a 4 (trows l)) (hi : i < l.length) : ∃ b off, a = some ⟨b, off, none⟩ ∧ Ats w0 F b (off + i * 4) l[i].cells := by
  obtain ⟨b, off, ha, _, hat⟩ := h.at (i := i) (row := l[i].cells) (by simp [trows, hi])
  exact ⟨b, off, ha, hat⟩
theorem c102 {w0 w : World} {F : List (Nat × Obj)} (a : Option Addr) (c : Nat) (l : List Train) (hl : l.length ≤ 9223372036854775807) (ha : Sl w0 F a 4 (trows l)) (most : Int) (fv : Value) (err : List Train → Train → Int) (I : Nat → List (Nat × Obj) → Prop) (B0 : List (Nat × Obj)) (h0 : I 0 B0)
    (hp : (l.length : Int) ≤ most → ∀ (i : Nat) (hi : i < l.length) (X B : List (Nat × Obj)) (w : World), I i B → St w0 w (X ++ (B ++ F)) → FCon Tryz.prog fv [.int .i64 i, .agg l[i].cells.toArray] w fun v w' => v = .int .i64 (err (l.take i) l[i]) ∧ ∃ B', (err (l.take i) l[i] = 0 → I (i + 1) B') ∧ St w0 w' (X ++ (B' ++ F)))
    (hs : St w0 w (B0 ++ F)) : Con Tryz.prog 102 [.slice a l.length c, .int .i64 most, fv] w fun v w' => v = .tuple #[.int .i64 (failE err most l).1, .int .i64 (failE err most l).2] ∧ ∃ B', ((failE err most l).2 = 0 → I l.length B') ∧ St w0 w' (B' ++ F) := by
  refine zAt (n := 31) func102 rfl rfl (zNl rfl) ?_
  refine zAe (fun K2 g6 => (zAa (zA5 rfl rfl (zA5 rfl rfl (zAd (zAb (g6 _ _ (zAe (fun K4 g7 => (zAe (fun K6 g8 => (zAa (w_p (zAi (v := .slice _ _ _) rfl rfl) rfl ?_)))))))))))))
  refine w_p (zA8 underlying29 rfl rfl) rfl (zAz rfl rfl (w_p (zD5 rfl rfl rfl rfl) rfl (zAd (zAb (g8 _ _ (zAu rfl rfl (fun h7 => ?_) (fun h7 => ?_)))))))
  ·
   try simp only [zS] at h7
   refine zAe (fun K9 g9 => (zAa (zA5 rfl rfl (zA5 rfl rfl (zAd (zAb (g9 _ _ (zAy (zAg (zA1 (l := [.tmp 6, .tmp 7]) (vs := [_,_]) rfl ⟨⟨rfl, (rfl : _ = Value.int _ _)⟩, ⟨rfl, (rfl : _ = Value.int _ _)⟩, trivial⟩ ?_))))))))))
   first
     | (have e : failE err most l = (0,3) := by unfold failE; rw [if_pos (by omega)]
        rw [e]
        exact ⟨rfl, B0, fun h => absurd h (by decide), hs⟩)
     | (have e : failE err most l = firstE err [] 0 l := by unfold failE; rw [if_neg (by omega)]
        rw [e, hinv, zAn hi2 (by assumption)]
        exact ⟨rfl, B1, fun h => absurd h (by assumption), hs.tail⟩)
     | (have e : failE err most l = firstE err [] 0 l := by unfold failE; rw [if_neg (by omega)]
        have hil : i = l.length := by omega
        rw [e, hinv, zBh (by omega)]
        exact ⟨rfl, B, fun _ => by rw [← hil]; exact hI, hs⟩)
  try simp only [zS] at h7
  refine zAs (zAb (g7 _ _ (zAe (fun gq ga => (zAe (fun gr gb => (zAa (w_p (zAi (v := .slice _ _ _) rfl rfl) rfl (w_p (zA8 underlying29 rfl rfl) rfl ?_)))))))))
  refine w_p (zAi (v := _) rfl rfl) rfl (zAd (zAb (gb _ _ (zAw ?_))))
  refine zBs [6,7,8,9,10,17,18,19,20,21,22,23,24,25,26,27,28,29,30] [17] (fun k vs w => ∃ (i : Nat) (B : List (Nat × Obj)), vs = [.int .i64 i] ∧ i ≤ l.length ∧ k = l.length - i ∧ I i B ∧ firstE err [] 0 l = firstE err (l.take i) i (l.drop i) ∧ St w0 w (B ++ F)) (l.length) ?_ ?_
  ·
   exact ⟨0, B0, rfl, by omega, by omega, h0, by simp, hs⟩
  intro k vs μ gt hI gu gc
  obtain ⟨i, B, rfl, hia, rfl, hI, hinv, hs⟩ := hI
  refine zAe (fun gv gd => (zAa (w_p (zBw rfl rfl rfl rfl) rfl (zAd (zAb (gd _ _ (zAe (fun gw gf => (zAu rfl rfl (fun g3 => ?_) (fun g3 => ?_))))))))))
  ·
   try simp only [zS] at g3
   refine zAs (zAb (gf _ _ (zAe (fun gx gg => (zAw ?_)))))
   refine zAe (fun gy gh => ?_)
   have hi2 : i < l.length := by omega
   obtain ⟨bx, ox, rfl, hx⟩ := sl_trows ha hi2
   refine zAa (zAz rfl rfl (w_p (zA3 underlying29 sizeOf55 rfl rfl rfl rfl (i := _) rfl (by omega)) rfl (w_p (zA4 (vs := [_,_,_,_]) isAgg55 sizeOf55 hs.drop rfl rfl hx) rfl (zBf (cs := [_,_,_,_]) zAc zeroValue55 rfl hs (fun gz gA gi => ?_)))))
   refine zBe rfl rfl (zA6 (i := 0) (v := .agg #[.int _ _, .int _ _, .int _ _, .int _ _]) (vs := [_,_,_,_]) zAc sizeOf55 rfl rfl rfl rfl rfl (by simp [Value.oneCell']) gi rfl (zNl rfl) (fun gB g5 => ?_))
   refine zAd (zAb (gh _ _ (zAe (fun gC gj => (zAa (w_p (zAi (v := fv) rfl rfl) rfl (zAz rfl rfl (w_p (zA4 (vs := [_,_,_,_]) isAgg55 sizeOf55 g5 rfl rfl (zAk (i := 0) (vs := [_,_,_,_]) rfl rfl)) rfl ?_))))))))
   refine zD9 zAc rfl rfl rfl rfl (hp (by omega) i hi2 [_] B _ hI g5) ?_
   rintro _ gE ⟨rfl, B1, hB1, g0⟩
   replace g0 := (show St _ _ (_ :: B1 ++ (F)) from g0)
   refine zBe rfl rfl (zAd (zAb (gj _ _ (zAe (fun gF gk => (zAa (zAz rfl rfl (w_p (zB2 rfl rfl rfl rfl) rfl (zAd (zAb (gk _ _ (zAu rfl rfl (fun g4 => ?_) (fun g4 => ?_)))))))))))))
   ·
    try simp only [zS] at g4
    refine zAe (fun gG gm => (zAa (zAz rfl rfl (zAz rfl rfl (zBe rfl rfl (zBe rfl rfl (zAd (zAb (gm _ _ (zAy (zAv (zAg (zAg (zAv (zAg (zA1 (l := [.tmp 6, .tmp 7]) (vs := [_,_]) rfl ⟨⟨rfl, (rfl : _ = Value.int _ _)⟩, ⟨rfl, (rfl : _ = Value.int _ _)⟩, trivial⟩ ?_))))))))))))))))
    first
      | (have e : failE err most l = (0,3) := by unfold failE; rw [if_pos (by omega)]
         rw [e]
         exact ⟨rfl, B0, fun h => absurd h (by decide), g0⟩)
      | (have e : failE err most l = firstE err [] 0 l := by unfold failE; rw [if_neg (by omega)]
         rw [e, hinv, zAn hi2 (by assumption)]
         exact ⟨rfl, B1, fun h => absurd h (by assumption), g0.tail⟩)
      | (have e : failE err most l = firstE err [] 0 l := by unfold failE; rw [if_neg (by omega)]
         have hil : i = l.length := by omega
         rw [e, hinv, zBh (by omega)]
         exact ⟨rfl, B, fun _ => by rw [← hil]; exact hI, g0⟩)
   try simp only [zS] at g4
   refine zAs (zAl (zAb (gg _ _ (zAa (w_p (zBg rfl rfl rfl rfl (by omega) (by omega)) rfl (zAz rfl rfl (zAd (zAb (gc _ _ (nxI (l.length - (i + 1)) (by omega) ?_))))))))))
   exact ⟨i + 1, B1, rfl, by omega, rfl, hB1 (by assumption), hinv.trans (zCe hi2 (by assumption)), g0.tail⟩
  try simp only [zS] at g3
  refine zBl (zAm (zAm (zA0 (zAb (ga _ _ (zAe (fun gH gn => (zAa (zA5 rfl rfl (zA5 rfl rfl (zAd (zAb (gn _ _ (zAy (zA1 (l := [.tmp 6, .tmp 7]) (vs := [_,_]) rfl ⟨⟨rfl, (rfl : _ = Value.int _ _)⟩, ⟨rfl, (rfl : _ = Value.int _ _)⟩, trivial⟩ ?_)))))))))))))))
  first
    | (have e : failE err most l = (0,3) := by unfold failE; rw [if_pos (by omega)]
       rw [e]
       exact ⟨rfl, B0, fun h => absurd h (by decide), hs⟩)
    | (have e : failE err most l = firstE err [] 0 l := by unfold failE; rw [if_neg (by omega)]
       rw [e, hinv, zAn hi2 (by assumption)]
       exact ⟨rfl, B1, fun h => absurd h (by assumption), hs.tail⟩)
    | (have e : failE err most l = firstE err [] 0 l := by unfold failE; rw [if_neg (by omega)]
       have hil : i = l.length := by omega
       rw [e, hinv, zBh (by omega)]
       exact ⟨rfl, B, fun _ => by rw [← hil]; exact hI, hs⟩)

end Go.Proofs.Sb
set_option maxRecDepth 20000
namespace Go.Proofs.Sb
open Go.Proofs.Tryz
open Go.Rt Go.Rt.Sh
attribute [local irreducible] WL WC Con Yd At Ats Sl Agree DW
theorem Try_SD_fb0 (x0 : ByteArray) (w : World) : (Instr.buildSlice 58 1 [(0, .string x0)].toArray).run Tryz.prog w = .ok (.slice (some ⟨w.heap.size, 0, none⟩) 1 1) (w.alloc (Go.Rt.blk 9 [.string x0])) := by kernel_rfl
theorem zF6 : Tryz.prog.info? 9 = some Tryz.t9 := by kernel_rfl
theorem Try_SD_fb2 (x0 : Int) (x1 : Int) (w : World) : (Instr.buildSlice 43 2 [(0, .int .i64 x0),(1, .int .i64 x1)].toArray).run Tryz.prog w = .ok (.slice (some ⟨w.heap.size, 0, none⟩) 2 2) (w.alloc (Go.Rt.blk 3 [.int .i64 x0, .int .i64 x1])) := by kernel_rfl
theorem zFf (x0 : Int) (w : World) : (Instr.buildSlice 43 1 [(0, .int .i64 x0)].toArray).run Tryz.prog w = .ok (.slice (some ⟨w.heap.size, 0, none⟩) 1 1) (w.alloc (Go.Rt.blk 3 [.int .i64 x0])) := by kernel_rfl
structure MIn (w0 : World) (F : List (Nat × Obj)) (m : Market) (p : At3) : Prop where
  r : Sl w0 F p.ar 5 (rrows m.rooms)
  s : Sl w0 F p.az 3 (srows m.shops)
  t : Sl w0 F p.at_ 4 (trows m.trains)
  lr : m.rooms.length ≤ 9223372036854775807
  ls : m.shops.length ≤ 9223372036854775807
  lt : m.trains.length ≤ 9223372036854775807
  cr : m.rooms.length ≤ p.cr
  cs : m.shops.length ≤ p.cs
  ct : m.trains.length ≤ p.ct
  nr : ∀ x ∈ m.rooms, x.name.size ≤ 9223372036854775807
  ns : ∀ x ∈ m.shops, x.name.size ≤ 9223372036854775807
theorem MIn.mono {w0 : World} {F F' : List (Nat × Obj)} {m : Market} {p : At3} (h : MIn w0 F m p) (hs : ∀ w, St w0 w F' → St w0 w F) : MIn w0 F' m p := ⟨h.r.mono hs, h.s.mono hs, h.t.mono hs, h.lr, h.ls, h.lt, h.cr, h.cs, h.ct, h.nr, h.ns⟩
theorem MIn.cons {w0 : World} {F : List (Nat × Obj)} {x : Nat × Obj} {m : Market} {p : At3} (h : MIn w0 F m p) : MIn w0 (x :: F) m p := h.mono fun _ h => h.tail
theorem MIn.app {w0 : World} {F B : List (Nat × Obj)} {m : Market} {p : At3} (h : MIn w0 F m p) : MIn w0 (B ++ F) m p := h.mono fun _ h => h.drop
theorem zHd {w0 w : World} {x : Nat × Obj} {Y F : List (Nat × Obj)} (h : St w0 w (x :: (Y ++ F))) : St w0 w (x :: F) := (h.perm (zBc [x] Y F)).drop
theorem tup3 {x : Int × Int × Int} {a b c : Int} (h : x = (a, b, c)) : Value.tuple #[.int .i64 a, .int .i64 b, .int .i64 c] = .tuple #[.int .i64 x.1, .int .i64 x.2.1, .int .i64 x.2.2] := by subst h; rfl
theorem zDe {bf : List Room} {x : Room} (h : ¬ nameE (bf.map (·.name)) x.name = 0) : nameE (bf.map (·.name)) x.name = roomE bf x := by unfold roomE; rw [if_pos h]
theorem zFx {bf : List Room} {x : Room} (h : nameE (bf.map (·.name)) x.name = 0) : roomE bf x = roomOwn x := by unfold roomE; rw [if_neg (by simp [h])]
theorem zEe {bf : List Shop} {x : Shop} (h : ¬ nameE (bf.map (·.name)) x.name = 0) : nameE (bf.map (·.name)) x.name = shopE bf x := by unfold shopE; rw [if_pos h]
theorem zIa {bf : List Shop} {x : Shop} (h : nameE (bf.map (·.name)) x.name = 0) : shopE bf x = shopOwn x := by unfold shopE; rw [if_neg (by simp [h])]
theorem own_name {v : Value} {l : List ByteArray} {s : ByteArray} {B : List (Nat × Obj)} (h : Rt.Own v 9 1 (l.length + 1) (strs l ++ [[Value.string s]].flatten) B) : Rt.Own v 9 1 (l ++ [s]).length (strs (l ++ [s])) B := by simpa [strs] using h
theorem c98 {w0 w : World} {F : List (Nat × Obj)} (i : Int) (x : Room) (hx : x.name.size ≤ 9223372036854775807) (bf : List Room) (hbf : bf.length ≤ 1000) (bn : Nat) (v : Value) (N : List (Nat × Obj)) (hown : Rt.Own v 9 1 (bf.map (·.name)).length (strs (bf.map (·.name))) N) (hs : St w0 w ((bn, blk 58 [v]) :: (N ++ F))) :
    Con Tryz.prog 98 [.int .i64 i, .agg x.cells.toArray, .pointer (some ⟨bn, 0, none⟩)] w fun u w' => u = .int .i64 (roomE bf x) ∧ ∃ v' N', (roomE bf x = 0 → Rt.Own v' 9 1 (bf.map (·.name) ++ [x.name]).length (strs (bf.map (·.name) ++ [x.name])) N') ∧ St w0 w' ((bn, blk 58 [v']) :: (N' ++ F)) := by
  refine zAt (n := 51) func98 rfl rfl (zNl rfl) ?_
  have hbl : (bf.map (·.name)).length ≤ 1000 := by rw [List.length_map]; exact hbf
  obtain ⟨ab, cb, rfl, hsb⟩ := zEf (w0 := w0) hown rfl F
  refine zAe (fun K2 gh => (zAa (zCa (v := .agg #[.string _, .int _ _, .int _ _, .int _ _, .int _ _]) (cs := [_,_,_,_,_]) zAc rfl rfl rfl hs (fun b3 w4 gb => ?_))))
  refine zA5 rfl rfl (zAd (zAb (gh _ _ (zAe (fun K7 gi => (zAe (fun K9 gj => (zAa (w_p (zAf (o := 0) (i := 0) underlying50 rfl sizeOf9 rfl rfl rfl) rfl ?_)))))))))
  refine w_p (zAj isAgg9 gb rfl rfl (zAk (i := 0) (vs := [_]) rfl rfl)) rfl (w_p (zAj isAgg58 gb rfl rfl (zAk (i := 1) (vs := [_]) rfl rfl)) rfl (zAr zAc call99 rfl rfl rfl rfl (c99 _ _ _ (by omega) hsb.cons.cons _ (by omega) gb) ?_))
  rintro _ gB ⟨rfl, g9⟩
  refine zBe rfl rfl (zAd (zAb (gj _ _ (zAe (fun gC gk => (zAa (zAz rfl rfl (w_p (zB2 rfl rfl rfl rfl) rfl (zAd (zAb (gk _ _ (zAu rfl rfl (fun g0 => ?_) (fun g0 => ?_)))))))))))))
  ·
   try simp only [zS] at g0
   refine zAe (fun gE gm => (zAa (zAz rfl rfl (zBe rfl rfl (zAd (zAb (gm _ _ (zAy (zAg (zA1 (l := [.tmp 5]) (vs := [_]) rfl ⟨⟨rfl, (rfl : _ = Value.int _ _)⟩, trivial⟩ ?_))))))))))
   try simp only [List.any_cons, List.any_nil, Bool.or_false, Bool.or_eq_false_iff] at g0
   first
     | exact ⟨congrArg (Value.int .i64) (zDe (by assumption)), _, N, fun h => absurd (zDe (by assumption) ▸ h) (by assumption), g9.tail⟩
     | exact ⟨congrArg (Value.int .i64) (by rw [zFx (by assumption)]; simp [roomOwn, g0] <;> omega), _, N, fun _ => hN, g9.tail⟩
  try simp only [zS] at g0
  refine zAs (zAb (gi _ _ (zAe (fun gF gn => (zAa (w_p (zAj isAgg58 g9 rfl rfl (zAk (i := 1) (vs := [_]) rfl rfl)) rfl (w_p (zAf (o := 0) (i := 0) underlying50 rfl sizeOf9 rfl rfl rfl) rfl ?_)))))))
  refine w_p (zAj isAgg9 g9 rfl rfl (zAk (i := 0) (vs := [_]) rfl rfl)) rfl (zBb (ps := [(0, _)]) (pv := [(0, .string _)]) (cs := [_]) zAc rfl rfl (fun w => Try_SD_fb0 _ w) g9 (fun gG gH gq => ?_))
  refine zCk (X := (_ :: _ :: _ :: [])) (B := N) (rows := [[_]]) (sz := 1) (bytes := 16) zAc underlying58 zF6 rfl rfl rfl rfl rfl rfl rfl rfl rfl gq hown (zBt (i := 0) rfl (by simp) rfl) rfl (by simp) (by simp [Value.oneCell']) (by simp only [maxLen]; omega) (by omega) (fun gI gJ g8 gr gc => ?_)
  replace gc := (show St _ _ (_ :: _ :: _ :: g8 ++ (F)) from gc)
  have hN := own_name gr
  obtain ⟨an, cn, rfl⟩ := hN.slice
  refine zA6 (i := 2) (v := .slice _ _ _) (vs := [_]) zAc sizeOf58 rfl rfl rfl rfl rfl (by simp [Value.oneCell']) gc rfl (zNl rfl) (fun gK gd => ?_)
  refine zAd (zAb (gn _ _ (zAe (fun gL gt => (zAw ?_)))))
  refine zAe (fun gM gf => (zAa (w_p (zAf (o := 1) (i := 1) underlying50 rfl sizeOf46 rfl rfl rfl) rfl (w_p (zAf (o := 0) (i := 0) underlying46 rfl sizeOf3 rfl rfl rfl) rfl (w_p (zAj isAgg3 gd rfl rfl (zAk (i := 1) (vs := [_]) rfl rfl)) rfl ?_)))))
  refine w_p (zAf (o := 1) (i := 1) underlying50 rfl sizeOf46 rfl rfl rfl) rfl (w_p (zAf (o := 1) (i := 1) underlying46 rfl sizeOf3 rfl rfl rfl) rfl (w_p (zAj isAgg3 gd rfl rfl (zAk (i := 1) (vs := [_]) rfl rfl)) rfl ?_))
  refine zBb (ps := [(0, _),(1, _)]) (pv := [(0, .int _ _),(1, .int _ _)]) (cs := [_,_]) zAc rfl rfl (fun w => Try_SD_fb2 _ _ w) gd (fun gN gP gu => ?_)
  refine zAr zAc call81 rfl rfl rfl rfl (c81 _ _ _ [_,_] _ (by simp) (zBt (i := 0) (rows := [[_], [_]]) rfl (by simp) rfl) gu) ?_
  rintro _ gQ ⟨rfl, ga⟩
  refine w_p (zAi (v := .bool _) rfl rfl) rfl (zBi (fun g3 => ?_) (fun g3 => ?_))
  ·
   try simp only [zS] at g3
   refine zAh rfl rfl rfl ?_
   refine zAh rfl rfl rfl ?_
   refine zAh rfl rfl rfl ?_
   refine zAh rfl rfl rfl ?_
   refine zAh rfl rfl rfl ?_
   refine zAh rfl rfl rfl ?_
   refine w_p (zAx (v := _) rfl rfl rfl rfl) rfl (w_p (zAo (v := .bool _) rfl rfl) rfl (zAd (zAb (gf _ _ (zB1 rfl rfl ?_)))))
   refine zAe (fun gR gv => (zAa (zA5 rfl rfl (zAd (zAb (gv _ _ (zAy (zAv (zAg (zA1 (l := [.tmp 5]) (vs := [_]) rfl ⟨⟨rfl, (rfl : _ = Value.int _ _)⟩, trivial⟩ ?_))))))))))
   try simp only [List.any_cons, List.any_nil, Bool.or_false, Bool.or_eq_false_iff] at g0 g3
   first
     | exact ⟨congrArg (Value.int .i64) (zDe (by assumption)), _, N, fun h => absurd (zDe (by assumption) ▸ h) (by assumption), ga.tail.tail.tail⟩
     | exact ⟨congrArg (Value.int .i64) (by rw [zFx (by assumption)]; simp [roomOwn, g0, g3] <;> omega), _, g8, fun _ => hN, ga.tail.tail.tail⟩
  try simp only [zS] at g3
  refine w_y rfl rfl rfl (zAf (o := 3) (i := 2) underlying50 rfl sizeOf3 rfl rfl rfl) rfl ?_
  refine w_y rfl rfl rfl (zAj isAgg3 ga rfl rfl (zAk (i := 2) (vs := [_]) rfl rfl)) rfl ?_
  refine w_y rfl rfl rfl (zAf (o := 4) (i := 3) underlying50 rfl sizeOf3 rfl rfl rfl) rfl ?_
  refine w_y rfl rfl rfl (zAj isAgg3 ga rfl rfl (zAk (i := 2) (vs := [_]) rfl rfl)) rfl ?_
  refine zBb (ps := [(0, _),(1, _)]) (pv := [(0, .int _ _),(1, .int _ _)]) (cs := [_,_]) (zAq rfl rfl rfl) rfl rfl (fun w => Try_SD_fb2 _ _ w) ga (fun gS gU gw => ?_)
  refine zAr (zAq rfl rfl rfl) call81 rfl rfl rfl rfl (c81 _ _ _ [_,_] _ (by simp) (zBt (i := 0) (rows := [[_], [_]]) rfl (by simp) rfl) gw) ?_
  rintro _ gV ⟨rfl, g4⟩
  refine w_p (zA9 (v := .bool _) rfl rfl rfl rfl) rfl (w_p (zAo (v := .bool _) rfl rfl) rfl (zAd (zAb (gf _ _ (zAu rfl rfl (fun g5 => ?_) (fun g5 => ?_))))))
  ·
   try simp only [zS] at g5
   refine zAe (fun gW gx => (zAa (zA5 rfl rfl (zAd (zAb (gx _ _ (zAy (zAv (zAg (zA1 (l := [.tmp 5]) (vs := [_]) rfl ⟨⟨rfl, (rfl : _ = Value.int _ _)⟩, trivial⟩ ?_))))))))))
   try simp only [List.any_cons, List.any_nil, Bool.or_false, Bool.or_eq_false_iff] at g0 g3 g5
   first
     | exact ⟨congrArg (Value.int .i64) (zDe (by assumption)), _, N, fun h => absurd (zDe (by assumption) ▸ h) (by assumption), g4.tail.tail.tail.tail⟩
     | exact ⟨congrArg (Value.int .i64) (by rw [zFx (by assumption)]; simp [roomOwn, g0, g3, g5] <;> omega), _, g8, fun _ => hN, g4.tail.tail.tail.tail⟩
  try simp only [zS] at g5
  refine zAe (fun gX gg => (zAa (w_p (zAf (o := 1) (i := 1) underlying50 rfl sizeOf46 rfl rfl rfl) rfl (w_p (zAf (o := 0) (i := 0) underlying46 rfl sizeOf3 rfl rfl rfl) rfl (w_p (zAj isAgg3 g4 rfl rfl (zAk (i := 3) (vs := [_]) rfl rfl)) rfl ?_)))))
  refine w_p (zAf (o := 1) (i := 1) underlying50 rfl sizeOf46 rfl rfl rfl) rfl (w_p (zAf (o := 1) (i := 1) underlying46 rfl sizeOf3 rfl rfl rfl) rfl (w_p (zAj isAgg3 g4 rfl rfl (zAk (i := 3) (vs := [_]) rfl rfl)) rfl ?_))
  refine w_p (zD5 rfl rfl rfl rfl) rfl (w_p (zAi (v := .bool _) rfl rfl) rfl (zBi (fun g6 => ?_) (fun g6 => ?_)))
  ·
   try simp only [zS] at g6
   refine zAh rfl rfl rfl ?_
   refine zAh rfl rfl rfl ?_
   refine zAh rfl rfl rfl ?_
   refine zAh rfl rfl rfl ?_
   refine zAh rfl rfl rfl ?_
   refine w_p (zAx (v := _) rfl rfl rfl rfl) rfl (w_p (zAo (v := .bool _) rfl rfl) rfl (zAd (zAb (gg _ _ (zB1 rfl rfl ?_)))))
   refine zAe (fun gY gy => (zAa (zA5 rfl rfl (zAd (zAb (gy _ _ (zAy (zAv (zAg (zA1 (l := [.tmp 5]) (vs := [_]) rfl ⟨⟨rfl, (rfl : _ = Value.int _ _)⟩, trivial⟩ ?_))))))))))
   try simp only [List.any_cons, List.any_nil, Bool.or_false, Bool.or_eq_false_iff] at g0 g3 g5 g6
   first
     | exact ⟨congrArg (Value.int .i64) (zDe (by assumption)), _, N, fun h => absurd (zDe (by assumption) ▸ h) (by assumption), g4.tail.tail.tail.tail⟩
     | exact ⟨congrArg (Value.int .i64) (by rw [zFx (by assumption)]; simp [roomOwn, g0, g3, g5, g6] <;> omega), _, g8, fun _ => hN, g4.tail.tail.tail.tail⟩
  try simp only [zS] at g6
  refine w_y rfl rfl rfl (zAf (o := 3) (i := 2) underlying50 rfl sizeOf3 rfl rfl rfl) rfl ?_
  refine w_y rfl rfl rfl (zAj isAgg3 g4 rfl rfl (zAk (i := 3) (vs := [_]) rfl rfl)) rfl ?_
  refine w_y rfl rfl rfl (zAf (o := 4) (i := 3) underlying50 rfl sizeOf3 rfl rfl rfl) rfl ?_
  refine w_y rfl rfl rfl (zAj isAgg3 g4 rfl rfl (zAk (i := 3) (vs := [_]) rfl rfl)) rfl ?_
  refine w_y rfl rfl rfl (zD5 rfl rfl rfl rfl) rfl ?_
  refine w_p (zA9 (v := .bool _) rfl rfl rfl rfl) rfl (w_p (zAo (v := .bool _) rfl rfl) rfl (zAd (zAb (gg _ _ (zAu rfl rfl (fun g7 => ?_) (fun g7 => ?_))))))
  ·
   try simp only [zS] at g7
   refine zAe (fun gZ gz => (zAa (zA5 rfl rfl (zAd (zAb (gz _ _ (zAy (zAv (zAg (zA1 (l := [.tmp 5]) (vs := [_]) rfl ⟨⟨rfl, (rfl : _ = Value.int _ _)⟩, trivial⟩ ?_))))))))))
   try simp only [List.any_cons, List.any_nil, Bool.or_false, Bool.or_eq_false_iff] at g0 g3 g5 g6 g7
   first
     | exact ⟨congrArg (Value.int .i64) (zDe (by assumption)), _, N, fun h => absurd (zDe (by assumption) ▸ h) (by assumption), g4.tail.tail.tail.tail⟩
     | exact ⟨congrArg (Value.int .i64) (by rw [zFx (by assumption)]; simp [roomOwn, g0, g3, g5, g6, g7] <;> omega), _, g8, fun _ => hN, g4.tail.tail.tail.tail⟩
  try simp only [zS] at g7
  refine zAs (zAl (zAb (gt _ _ (zAe (fun hD gA => (zAa (zA5 rfl rfl (zAd (zAb (gA _ _ (zAy (zA1 (l := [.tmp 5]) (vs := [_]) rfl ⟨⟨rfl, (rfl : _ = Value.int _ _)⟩, trivial⟩ ?_))))))))))))
  try simp only [List.any_cons, List.any_nil, Bool.or_false, Bool.or_eq_false_iff] at g0 g3 g5 g6 g7
  first
    | exact ⟨congrArg (Value.int .i64) (zDe (by assumption)), _, N, fun h => absurd (zDe (by assumption) ▸ h) (by assumption), g4.tail.tail.tail.tail⟩
    | exact ⟨congrArg (Value.int .i64) (by rw [zFx (by assumption)]; simp [roomOwn, g0, g3, g5, g6, g7] <;> omega), _, g8, fun _ => hN, g4.tail.tail.tail.tail⟩

theorem c101 {w0 w : World} {F : List (Nat × Obj)} (i : Int) (x : Shop) (hx : x.name.size ≤ 9223372036854775807) (bf : List Shop) (hbf : bf.length ≤ 1000) (bn : Nat) (v : Value) (N : List (Nat × Obj)) (hown : Rt.Own v 9 1 (bf.map (·.name)).length (strs (bf.map (·.name))) N) (hs : St w0 w ((bn, blk 58 [v]) :: (N ++ F))) :
    Con Tryz.prog 101 [.int .i64 i, .agg x.cells.toArray, .pointer (some ⟨bn, 0, none⟩)] w fun u w' => u = .int .i64 (shopE bf x) ∧ ∃ v' N', (shopE bf x = 0 → Rt.Own v' 9 1 (bf.map (·.name) ++ [x.name]).length (strs (bf.map (·.name) ++ [x.name])) N') ∧ St w0 w' ((bn, blk 58 [v']) :: (N' ++ F)) := by
  refine zAt (n := 29) func101 rfl rfl (zNl rfl) ?_
  have hbl : (bf.map (·.name)).length ≤ 1000 := by rw [List.length_map]; exact hbf
  obtain ⟨ab, cb, rfl, hsb⟩ := zEf (w0 := w0) hown rfl F
  refine zAe (fun K2 gd => (zAa (zCa (v := .agg #[.string _, .int _ _, .int _ _]) (cs := [_,_,_]) zAc rfl rfl rfl hs (fun b3 w4 g9 => ?_))))
  refine zA5 rfl rfl (zAd (zAb (gd _ _ (zAe (fun K7 gf => (zAe (fun K9 gg => (zAa (w_p (zAf (o := 0) (i := 0) underlying71 rfl sizeOf9 rfl rfl rfl) rfl ?_)))))))))
  refine w_p (zAj isAgg9 g9 rfl rfl (zAk (i := 0) (vs := [_]) rfl rfl)) rfl (w_p (zAj isAgg58 g9 rfl rfl (zAk (i := 1) (vs := [_]) rfl rfl)) rfl (zAr zAc call99 rfl rfl rfl rfl (c99 _ _ _ (by omega) hsb.cons.cons _ (by omega) g9) ?_))
  rintro _ gw ⟨rfl, g5⟩
  refine zBe rfl rfl (zAd (zAb (gg _ _ (zAe (fun gx gh => (zAa (zAz rfl rfl (w_p (zB2 rfl rfl rfl rfl) rfl (zAd (zAb (gh _ _ (zAu rfl rfl (fun g0 => ?_) (fun g0 => ?_)))))))))))))
  ·
   try simp only [zS] at g0
   refine zAe (fun gy gi => (zAa (zAz rfl rfl (zBe rfl rfl (zAd (zAb (gi _ _ (zAy (zAg (zA1 (l := [.tmp 5]) (vs := [_]) rfl ⟨⟨rfl, (rfl : _ = Value.int _ _)⟩, trivial⟩ ?_))))))))))
   try simp only [List.any_cons, List.any_nil, Bool.or_false, Bool.or_eq_false_iff] at g0
   first
     | exact ⟨congrArg (Value.int .i64) (zEe (by assumption)), _, N, fun h => absurd (zEe (by assumption) ▸ h) (by assumption), g5.tail⟩
     | exact ⟨congrArg (Value.int .i64) (by rw [zIa (by assumption)]; simp [shopOwn, g0] <;> omega), _, N, fun _ => hN, g5.tail⟩
  try simp only [zS] at g0
  refine zAs (zAb (gf _ _ (zAe (fun gz gj => (zAa (w_p (zAj isAgg58 g5 rfl rfl (zAk (i := 1) (vs := [_]) rfl rfl)) rfl (w_p (zAf (o := 0) (i := 0) underlying71 rfl sizeOf9 rfl rfl rfl) rfl ?_)))))))
  refine w_p (zAj isAgg9 g5 rfl rfl (zAk (i := 0) (vs := [_]) rfl rfl)) rfl (zBb (ps := [(0, _)]) (pv := [(0, .string _)]) (cs := [_]) zAc rfl rfl (fun w => Try_SD_fb0 _ w) g5 (fun gA gB gk => ?_))
  refine zCk (X := (_ :: _ :: _ :: [])) (B := N) (rows := [[_]]) (sz := 1) (bytes := 16) zAc underlying58 zF6 rfl rfl rfl rfl rfl rfl rfl rfl rfl gk hown (zBt (i := 0) rfl (by simp) rfl) rfl (by simp) (by simp [Value.oneCell']) (by simp only [maxLen]; omega) (by omega) (fun gC gE g6 gm ga => ?_)
  replace ga := (show St _ _ (_ :: _ :: _ :: g6 ++ (F)) from ga)
  have hN := own_name gm
  obtain ⟨an, cn, rfl⟩ := hN.slice
  refine zA6 (i := 2) (v := .slice _ _ _) (vs := [_]) zAc sizeOf58 rfl rfl rfl rfl rfl (by simp [Value.oneCell']) ga rfl (zNl rfl) (fun gF gb => ?_)
  refine zAd (zAb (gj _ _ (zAe (fun gG gn => (zAe (fun gH gc => (zAa (w_p (zAf (o := 1) (i := 1) underlying71 rfl sizeOf3 rfl rfl rfl) rfl (w_p (zAj isAgg3 gb rfl rfl (zAk (i := 1) (vs := [_]) rfl rfl)) rfl ?_)))))))))
  refine zBb (ps := [(0, _)]) (pv := [(0, .int _ _)]) (cs := [_]) zAc rfl rfl (fun w => zFf _ w) gb (fun gI gJ gq => ?_)
  refine zAr zAc call81 rfl rfl rfl rfl (c81 _ _ _ [_] _ (by simp) (zBt (i := 0) (rows := [[_]]) rfl (by simp) rfl) gq) ?_
  rintro _ gK ⟨rfl, g7⟩
  refine w_p (zAi (v := .bool _) rfl rfl) rfl (zBi (fun g3 => ?_) (fun g3 => ?_))
  ·
   try simp only [zS] at g3
   refine zAh rfl rfl rfl ?_
   refine zAh rfl rfl rfl ?_
   refine zAh rfl rfl rfl ?_
   refine zAh rfl rfl rfl ?_
   refine w_p (zAx (v := _) rfl rfl rfl rfl) rfl (zAd (zAb (gc _ _ (zB1 rfl rfl ?_))))
   refine zAe (fun gL gr => (zAa (zA5 rfl rfl (zAd (zAb (gr _ _ (zAy (zAg (zA1 (l := [.tmp 5]) (vs := [_]) rfl ⟨⟨rfl, (rfl : _ = Value.int _ _)⟩, trivial⟩ ?_)))))))))
   try simp only [List.any_cons, List.any_nil, Bool.or_false, Bool.or_eq_false_iff] at g0 g3
   first
     | exact ⟨congrArg (Value.int .i64) (zEe (by assumption)), _, N, fun h => absurd (zEe (by assumption) ▸ h) (by assumption), g7.tail.tail.tail⟩
     | exact ⟨congrArg (Value.int .i64) (by rw [zIa (by assumption)]; simp [shopOwn, g0, g3] <;> omega), _, g6, fun _ => hN, g7.tail.tail.tail⟩
  try simp only [zS] at g3
  refine w_y rfl rfl rfl (zAf (o := 2) (i := 2) underlying71 rfl sizeOf3 rfl rfl rfl) rfl ?_
  refine w_y rfl rfl rfl (zAj isAgg3 g7 rfl rfl (zAk (i := 2) (vs := [_]) rfl rfl)) rfl ?_
  refine zBb (ps := [(0, _)]) (pv := [(0, .int _ _)]) (cs := [_]) (zAq rfl rfl rfl) rfl rfl (fun w => zFf _ w) g7 (fun gM gN gt => ?_)
  refine zAr (zAq rfl rfl rfl) call81 rfl rfl rfl rfl (c81 _ _ _ [_] _ (by simp) (zBt (i := 0) (rows := [[_]]) rfl (by simp) rfl) gt) ?_
  rintro _ gP ⟨rfl, g8⟩
  refine w_p (zA9 (v := .bool _) rfl rfl rfl rfl) rfl (zAd (zAb (gc _ _ (zAu rfl rfl (fun g4 => ?_) (fun g4 => ?_)))))
  ·
   try simp only [zS] at g4
   refine zAe (fun gQ gu => (zAa (zA5 rfl rfl (zAd (zAb (gu _ _ (zAy (zAg (zA1 (l := [.tmp 5]) (vs := [_]) rfl ⟨⟨rfl, (rfl : _ = Value.int _ _)⟩, trivial⟩ ?_)))))))))
   try simp only [List.any_cons, List.any_nil, Bool.or_false, Bool.or_eq_false_iff] at g0 g3 g4
   first
     | exact ⟨congrArg (Value.int .i64) (zEe (by assumption)), _, N, fun h => absurd (zEe (by assumption) ▸ h) (by assumption), g8.tail.tail.tail.tail⟩
     | exact ⟨congrArg (Value.int .i64) (by rw [zIa (by assumption)]; simp [shopOwn, g0, g3, g4] <;> omega), _, g6, fun _ => hN, g8.tail.tail.tail.tail⟩
  try simp only [zS] at g4
  refine zAs (zAb (gn _ _ (zAe (fun gR gv => (zAa (zA5 rfl rfl (zAd (zAb (gv _ _ (zAy (zA1 (l := [.tmp 5]) (vs := [_]) rfl ⟨⟨rfl, (rfl : _ = Value.int _ _)⟩, trivial⟩ ?_)))))))))))
  try simp only [List.any_cons, List.any_nil, Bool.or_false, Bool.or_eq_false_iff] at g0 g3 g4
  first
    | exact ⟨congrArg (Value.int .i64) (zEe (by assumption)), _, N, fun h => absurd (zEe (by assumption) ▸ h) (by assumption), g8.tail.tail.tail.tail⟩
    | exact ⟨congrArg (Value.int .i64) (by rw [zIa (by assumption)]; simp [shopOwn, g0, g3, g4] <;> omega), _, g6, fun _ => hN, g8.tail.tail.tail.tail⟩

theorem c103 {w0 w : World} {F : List (Nat × Obj)} (m : Market) (p : At3) (hm : MIn w0 F m p) (i : Int) (t : Train) (bm : Nat) (hb : Ats w0 F bm 0 (m.cells p)) (bf : List Train) (hs : St w0 w F) :
  Con Tryz.prog 103 [.int .i64 i, .agg t.cells.toArray, .pointer (some ⟨bm, 0, none⟩)] w fun v w' => v = .int .i64 (trainE m bf t) ∧ St w0 w' F := by
  refine zAt (n := 36) func103 rfl rfl (zNl rfl) ?_
  have hlr := hm.lr
  have hls := hm.ls
  refine zAe (fun K2 gd => (zAa (zCa (v := .agg #[.int _ _, .int _ _, .int _ _, .int _ _]) (cs := [_,_,_,_]) zAc rfl rfl rfl hs (fun b3 w4 g7 => ?_))))
  refine zA5 rfl rfl (zAd (zAb (gd _ _ (zAe (fun K7 gf => (zAw ?_))))))
  refine zAe (fun K9 ga => (zAa (w_p (zAf (o := 0) (i := 0) underlying31 rfl sizeOf27 rfl rfl rfl) rfl (w_p (zAj isAgg27 g7.tail rfl rfl (show Ats _ _ _ _ [_] from Ats.part hb 0 1)) rfl (w_p (zA8 underlying27 rfl rfl) rfl (w_p (zE0 rfl rfl rfl rfl (by omega) (by omega)) rfl ?_))))))
  refine w_p (zAf (o := 0) (i := 0) underlying55 rfl sizeOf3 rfl rfl rfl) rfl (w_p (zAj isAgg3 g7 rfl rfl (zAk (i := 0) (vs := [_]) rfl rfl)) rfl (zBb (ps := [(0, _)]) (pv := [(0, .int _ _)]) (cs := [_]) zAc rfl rfl (fun w => zFf _ w) g7 (fun gt gu gg => ?_)))
  refine zAr zAc call81 rfl rfl rfl rfl (c81 _ _ _ [_] _ (by simp) (zBt (i := 0) (rows := [[_]]) rfl (by simp) rfl) gg) ?_
  rintro _ gv ⟨rfl, g6⟩
  refine w_p (zAi (v := .bool _) rfl rfl) rfl (zBi (fun g0 => ?_) (fun g0 => ?_))
  ·
   try simp only [zS] at g0
   refine zAh rfl rfl rfl ?_
   refine zAh rfl rfl rfl ?_
   refine zAh rfl rfl rfl ?_
   refine zAh rfl rfl rfl ?_
   refine zAh rfl rfl rfl ?_
   refine zAh rfl rfl rfl ?_
   refine zAh rfl rfl rfl ?_
   refine zAh rfl rfl rfl ?_
   refine w_p (zAx (v := _) rfl rfl rfl rfl) rfl (w_p (zAo (v := .bool _) rfl rfl) rfl (zAd (zAb (ga _ _ (zB1 rfl rfl ?_)))))
   refine zAe (fun gw gh => (zAa (zA5 rfl rfl (zAd (zAb (gh _ _ (zAy (zAv (zAg (zA1 (l := [.tmp 5]) (vs := [_]) rfl ⟨⟨rfl, (rfl : _ = Value.int _ _)⟩, trivial⟩ ?_))))))))))
   try simp only [List.any_cons, List.any_nil, Bool.or_false, Bool.or_eq_false_iff] at g0
   exact ⟨congrArg (Value.int .i64) (by simp [trainE, g0]), g6.tail.tail⟩
  try simp only [zS] at g0
  refine w_y rfl rfl rfl (zAf (o := 1) (i := 1) underlying31 rfl sizeOf28 rfl rfl rfl) rfl ?_
  refine w_y rfl rfl rfl (zAj isAgg28 g6.tail.tail rfl rfl (show Ats _ _ _ _ [_] from Ats.part hb 1 1)) rfl ?_
  refine w_y rfl rfl rfl (zA8 underlying28 rfl rfl) rfl ?_
  refine w_y rfl rfl rfl (zE0 rfl rfl rfl rfl (by omega) (by omega)) rfl ?_
  refine w_y rfl rfl rfl (zAf (o := 1) (i := 1) underlying55 rfl sizeOf3 rfl rfl rfl) rfl ?_
  refine w_y rfl rfl rfl (zAj isAgg3 g6 rfl rfl (zAk (i := 1) (vs := [_]) rfl rfl)) rfl ?_
  refine zBb (ps := [(0, _)]) (pv := [(0, .int _ _)]) (cs := [_]) (zAq rfl rfl rfl) rfl rfl (fun w => zFf _ w) g6 (fun gx gy gi => ?_)
  refine zAr (zAq rfl rfl rfl) call81 rfl rfl rfl rfl (c81 _ _ _ [_] _ (by simp) (zBt (i := 0) (rows := [[_]]) rfl (by simp) rfl) gi) ?_
  rintro _ gz ⟨rfl, g8⟩
  refine w_p (zA9 (v := .bool _) rfl rfl rfl rfl) rfl (w_p (zAo (v := .bool _) rfl rfl) rfl (zAd (zAb (ga _ _ (zAu rfl rfl (fun g3 => ?_) (fun g3 => ?_))))))
  ·
   try simp only [zS] at g3
   refine zAe (fun gA gj => (zAa (zA5 rfl rfl (zAd (zAb (gj _ _ (zAy (zAv (zAg (zA1 (l := [.tmp 5]) (vs := [_]) rfl ⟨⟨rfl, (rfl : _ = Value.int _ _)⟩, trivial⟩ ?_))))))))))
   try simp only [List.any_cons, List.any_nil, Bool.or_false, Bool.or_eq_false_iff] at g0 g3
   exact ⟨congrArg (Value.int .i64) (by simp [trainE, g0, g3]), g8.tail.tail.tail⟩
  try simp only [zS] at g3
  refine zAe (fun gB gb => (zAa (w_p (zAf (o := 2) (i := 2) underlying55 rfl sizeOf3 rfl rfl rfl) rfl (w_p (zAj isAgg3 g8 rfl rfl (zAk (i := 2) (vs := [_]) rfl rfl)) rfl (zBb (ps := [(0, _)]) (pv := [(0, .int _ _)]) (cs := [_]) zAc rfl rfl (fun w => zFf _ w) g8 (fun gC gE gk => ?_))))))
  refine zAr zAc call81 rfl rfl rfl rfl (c81 _ _ _ [_] _ (by simp) (zBt (i := 0) (rows := [[_]]) rfl (by simp) rfl) gk) ?_
  rintro _ gF ⟨rfl, g9⟩
  refine w_p (zAi (v := .bool _) rfl rfl) rfl (zBi (fun g4 => ?_) (fun g4 => ?_))
  ·
   try simp only [zS] at g4
   refine zAh rfl rfl rfl ?_
   refine zAh rfl rfl rfl ?_
   refine zAh rfl rfl rfl ?_
   refine zAh rfl rfl rfl ?_
   refine w_p (zAx (v := _) rfl rfl rfl rfl) rfl (w_p (zAo (v := .bool _) rfl rfl) rfl (zAd (zAb (gb _ _ (zB1 rfl rfl ?_)))))
   refine zAe (fun gG gm => (zAa (zA5 rfl rfl (zAd (zAb (gm _ _ (zAy (zAv (zAg (zA1 (l := [.tmp 5]) (vs := [_]) rfl ⟨⟨rfl, (rfl : _ = Value.int _ _)⟩, trivial⟩ ?_))))))))))
   try simp only [List.any_cons, List.any_nil, Bool.or_false, Bool.or_eq_false_iff] at g0 g3 g4
   exact ⟨congrArg (Value.int .i64) (by simp [trainE, g0, g3, g4]), g9.tail.tail.tail.tail⟩
  try simp only [zS] at g4
  refine w_y rfl rfl rfl (zAf (o := 3) (i := 3) underlying55 rfl sizeOf3 rfl rfl rfl) rfl ?_
  refine w_y rfl rfl rfl (zAj isAgg3 g9 rfl rfl (zAk (i := 3) (vs := [_]) rfl rfl)) rfl ?_
  refine zBb (ps := [(0, _)]) (pv := [(0, .int _ _)]) (cs := [_]) (zAq rfl rfl rfl) rfl rfl (fun w => zFf _ w) g9 (fun gH gI gn => ?_)
  refine zAr (zAq rfl rfl rfl) call81 rfl rfl rfl rfl (c81 _ _ _ [_] _ (by simp) (zBt (i := 0) (rows := [[_]]) rfl (by simp) rfl) gn) ?_
  rintro _ gJ ⟨rfl, gc⟩
  refine w_p (zA9 (v := .bool _) rfl rfl rfl rfl) rfl (w_p (zAo (v := .bool _) rfl rfl) rfl (zAd (zAb (gb _ _ (zAu rfl rfl (fun g5 => ?_) (fun g5 => ?_))))))
  ·
   try simp only [zS] at g5
   refine zAe (fun gK gq => (zAa (zA5 rfl rfl (zAd (zAb (gq _ _ (zAy (zAv (zAg (zA1 (l := [.tmp 5]) (vs := [_]) rfl ⟨⟨rfl, (rfl : _ = Value.int _ _)⟩, trivial⟩ ?_))))))))))
   try simp only [List.any_cons, List.any_nil, Bool.or_false, Bool.or_eq_false_iff] at g0 g3 g4 g5
   exact ⟨congrArg (Value.int .i64) (by simp [trainE, g0, g3, g4, g5]), gc.tail.tail.tail.tail.tail⟩
  try simp only [zS] at g5
  refine zAs (zAl (zAb (gf _ _ (zAe (fun gL gr => (zAa (zA5 rfl rfl (zAd (zAb (gr _ _ (zAy (zA1 (l := [.tmp 5]) (vs := [_]) rfl ⟨⟨rfl, (rfl : _ = Value.int _ _)⟩, trivial⟩ ?_))))))))))))
  try simp only [List.any_cons, List.any_nil, Bool.or_false, Bool.or_eq_false_iff] at g0 g3 g4 g5
  exact ⟨congrArg (Value.int .i64) (by simp [trainE, g0, g3, g4, g5]), gc.tail.tail.tail.tail.tail⟩

def NI (bn : Nat) (nm : Nat → List ByteArray) (i : Nat) (B : List (Nat × Obj)) : Prop := ∃ v N, B = (bn, blk 58 [v]) :: N ∧ Rt.Own v 9 1 (nm i).length (strs (nm i)) N
theorem NI0 (bn : Nat) {nm : Nat → List ByteArray} (h : nm 0 = []) : NI bn nm 0 [(bn, blk 58 [.slice none 0 0])] := ⟨_, [], rfl, by rw [h]; exact zEm 9 1⟩
theorem nm_rooms {w0 : World} {G : List (Nat × Obj)} (l : List Room) (hn : ∀ x ∈ l, x.name.size ≤ 9223372036854775807) (hl : l.length ≤ 1000) (bn : Nat) (i : Nat) (hi : i < l.length) (X B : List (Nat × Obj)) (w : World) (hI : NI bn (fun i => (l.take i).map (·.name)) i B) (hs : St w0 w (X ++ (B ++ G))) :
    FCon Tryz.prog (.func (.func 98) #[] #[.pointer (some ⟨bn, 0, none⟩)]) [.int .i64 i, .agg l[i].cells.toArray] w fun v w' => v = .int .i64 (roomE (l.take i) l[i]) ∧ ∃ B', (roomE (l.take i) l[i] = 0 → NI bn (fun i => (l.take i).map (·.name)) (i + 1) B') ∧ St w0 w' (X ++ (B' ++ G)) := by
  obtain ⟨v, N, rfl, hown⟩ := hI
  have g0 : St w0 w ((bn, blk 58 [v]) :: (N ++ (X ++ G))) := hs.perm (zBc X ((bn, blk 58 [v]) :: N) G)
  refine zDd call98 ((c98 i l[i] (hn _ (List.getElem_mem hi)) (l.take i) (by rw [List.length_take]; omega) bn v N hown g0).mono fun u w' h => ?_)
  obtain ⟨h1, v', N', h2, h3⟩ := h
  refine ⟨h1, (bn, blk 58 [v']) :: N', fun h => ⟨v', N', rfl, ?_⟩, h3.perm (zBc ((bn, blk 58 [v']) :: N') X G)⟩
  have e : (l.take (i + 1)).map (·.name) = (l.take i).map (·.name) ++ [l[i].name] := by rw [List.take_succ_eq_append_getElem hi, List.map_append]; rfl
  show Rt.Own v' 9 1 ((l.take (i + 1)).map (·.name)).length (strs ((l.take (i + 1)).map (·.name))) N'
  rw [e]; exact h2 h
theorem nm_shops {w0 : World} {G : List (Nat × Obj)} (l : List Shop) (hn : ∀ x ∈ l, x.name.size ≤ 9223372036854775807) (hl : l.length ≤ 1000) (bn : Nat) (i : Nat) (hi : i < l.length) (X B : List (Nat × Obj)) (w : World) (hI : NI bn (fun i => (l.take i).map (·.name)) i B) (hs : St w0 w (X ++ (B ++ G))) :
    FCon Tryz.prog (.func (.func 101) #[] #[.pointer (some ⟨bn, 0, none⟩)]) [.int .i64 i, .agg l[i].cells.toArray] w fun v w' => v = .int .i64 (shopE (l.take i) l[i]) ∧ ∃ B', (shopE (l.take i) l[i] = 0 → NI bn (fun i => (l.take i).map (·.name)) (i + 1) B') ∧ St w0 w' (X ++ (B' ++ G)) := by
  obtain ⟨v, N, rfl, hown⟩ := hI
  have g0 : St w0 w ((bn, blk 58 [v]) :: (N ++ (X ++ G))) := hs.perm (zBc X ((bn, blk 58 [v]) :: N) G)
  refine zDd call101 ((c101 i l[i] (hn _ (List.getElem_mem hi)) (l.take i) (by rw [List.length_take]; omega) bn v N hown g0).mono fun u w' h => ?_)
  obtain ⟨h1, v', N', h2, h3⟩ := h
  refine ⟨h1, (bn, blk 58 [v']) :: N', fun h => ⟨v', N', rfl, ?_⟩, h3.perm (zBc ((bn, blk 58 [v']) :: N') X G)⟩
  have e : (l.take (i + 1)).map (·.name) = (l.take i).map (·.name) ++ [l[i].name] := by rw [List.take_succ_eq_append_getElem hi, List.map_append]; rfl
  show Rt.Own v' 9 1 ((l.take (i + 1)).map (·.name)).length (strs ((l.take (i + 1)).map (·.name))) N'
  rw [e]; exact h2 h
theorem c80 {w0 w : World} {F : List (Nat × Obj)} (m : Market) (p : At3) (hm : MIn w0 F m p)  (hs : St w0 w F) :
  Con Tryz.prog 80 [.agg (m.cells p).toArray] w fun v w' => v = .tuple #[.int .i64 (check m).1, .int .i64 (check m).2.1, .int .i64 (check m).2.2] ∧ St w0 w' F := by
  refine zAt (n := 39) func80 rfl rfl (zNl rfl) ?_
  have hlr := hm.lr
  have hls := hm.ls
  have hlt := hm.lt
  refine zAe (fun K2 gb => (zAa (zCa (v := .agg #[.slice _ _ _, .slice _ _ _, .slice _ _ _]) (cs := [_,_,_]) zAc rfl rfl rfl hs (fun b3 w4 gc => ?_))))
  refine zA5 rfl rfl (zA5 rfl rfl (zA5 rfl rfl (zAd (zAb (gb _ _ (zAe (fun K7 gd => (zAa (zBf (cs := [_]) zAc zeroValue58 rfl gc (fun b8 w9 g8 => ?_))))))))))
  refine zAd (zAb (gd _ _ (zAe (fun gy gf => (zAa (w_p (zAf (o := 0) (i := 0) underlying31 rfl sizeOf27 rfl rfl rfl) rfl (w_p (zAj isAgg27 g8 rfl rfl (zAk (i := 1) (vs := [_]) rfl rfl)) rfl ?_)))))))
  refine w_p (zCc (fv := []) (cv := [_]) rfl rfl rfl rfl) rfl (zAr zAc call97 rfl rfl rfl rfl (c97 (F := ((b3, blk 31 (m.cells p)) :: F)) _ _ m.rooms hlr hm.r.cons 3 (.func (.func 98) #[] #[.pointer (some ⟨b8,0, none⟩)]) roomE (NI b8 fun i => (m.rooms.take i).map (·.name)) [_] (NI0 _ rfl) (fun hle i hi X B w hI hs => nm_rooms m.rooms hm.nr (by omega) _ i hi X B w hI hs) g8) ?_)
  rintro _ gz ⟨rfl, B1, h_B1, g5⟩
  replace g5 := (show St _ _ (B1 ++ (_ :: F)) from g5)
  refine w_p (zAi (v := .tuple _) rfl rfl) rfl (w_p (zAp (v := .int _ _) rfl rfl rfl) rfl (w_p (zAp (v := .int _ _) rfl rfl rfl) rfl (zBe rfl rfl (zBe rfl rfl (zAd (zAb (gf _ _ (zAe (fun gA gg => (zAe (fun gB gh => (zAa (zAz rfl rfl ?_)))))))))))))
  refine w_p (zB2 rfl rfl rfl rfl) rfl (zAd (zAb (gh _ _ (zAu rfl rfl (fun g0 => ?_) (fun g0 => ?_)))))
  ·
   try simp only [zS] at g0
   refine zAe (fun gC gi => (zAa (zAz rfl rfl (zAz rfl rfl (zA5 rfl rfl (zBe rfl rfl (zBe rfl rfl (zAd (zAb (gi _ _ (zAy (zAg (zA1 (l := [.tmp 2, .tmp 3, .tmp 4]) (vs := [_,_,_]) rfl ⟨⟨rfl, (rfl : _ = Value.int _ _)⟩, ⟨rfl, (rfl : _ = Value.int _ _)⟩, ⟨rfl, (rfl : _ = Value.int _ _)⟩, trivial⟩ ?_)))))))))))))
   refine ⟨tup3 ?_, g5.drop.tail⟩; unfold check; simp [g0]
  try simp only [zS] at g0
  refine zAs (zAb (gg _ _ (zAe (fun gE gj => ?_))))
  obtain ⟨v_B1, N_B1, rfl, _⟩ := h_B1 (by assumption)
  have gk := zHd (Y := N_B1) (show St _ _ (_ :: (N_B1 ++ (_ :: F))) from g5)
  refine zAa (zA6 (i := 0) (v := .slice _ _ _) (vs := [_]) zAc sizeOf58 rfl rfl rfl rfl rfl (by simp [Value.oneCell']) gk rfl (zNl rfl) (fun gF g9 => ?_))
  refine zAd (zAb (gj _ _ (zAe (fun gG gm => (zAa (w_p (zAf (o := 1) (i := 1) underlying31 rfl sizeOf28 rfl rfl rfl) rfl (w_p (zAj isAgg28 g9 rfl rfl (zAk (i := 1) (vs := [_]) rfl rfl)) rfl ?_)))))))
  refine w_p (zCc (fv := []) (cv := [_]) rfl rfl rfl rfl) rfl (zAr zAc call100 rfl rfl rfl rfl (c100 (F := ((b3, blk 31 (m.cells p)) :: F)) _ _ m.shops hls hm.s.cons 4 (.func (.func 101) #[] #[.pointer (some ⟨b8,0, none⟩)]) shopE (NI b8 fun i => (m.shops.take i).map (·.name)) [_] (NI0 _ rfl) (fun hle i hi X B w hI hs => nm_shops m.shops hm.ns (by omega) _ i hi X B w hI hs) g9) ?_)
  rintro _ gH ⟨rfl, B2, h_B2, g6⟩
  replace g6 := (show St _ _ (B2 ++ (_ :: F)) from g6)
  refine w_p (zAi (v := .tuple _) rfl rfl) rfl (w_p (zAp (v := .int _ _) rfl rfl rfl) rfl (w_p (zAp (v := .int _ _) rfl rfl rfl) rfl (zBe rfl rfl (zBe rfl rfl (zAd (zAb (gm _ _ (zAe (fun gI gn => (zAe (fun gJ gq => (zAa (zAz rfl rfl ?_)))))))))))))
  refine w_p (zB2 rfl rfl rfl rfl) rfl (zAd (zAb (gq _ _ (zAu rfl rfl (fun g3 => ?_) (fun g3 => ?_)))))
  ·
   try simp only [zS] at g3
   refine zAe (fun gK gr => (zAa (zAz rfl rfl (zAz rfl rfl (zA5 rfl rfl (zBe rfl rfl (zBe rfl rfl (zAd (zAb (gr _ _ (zAy (zAg (zA1 (l := [.tmp 2, .tmp 3, .tmp 4]) (vs := [_,_,_]) rfl ⟨⟨rfl, (rfl : _ = Value.int _ _)⟩, ⟨rfl, (rfl : _ = Value.int _ _)⟩, ⟨rfl, (rfl : _ = Value.int _ _)⟩, trivial⟩ ?_)))))))))))))
   refine ⟨tup3 ?_, g6.drop.tail⟩; unfold check; simp [g0, g3]
  try simp only [zS] at g3
  refine zAs (zAb (gn _ _ (zAe (fun gL gt => ?_))))
  obtain ⟨v_B2, N_B2, rfl, _⟩ := h_B2 (by assumption)
  have ga := zHd (Y := N_B2) (show St _ _ (_ :: (N_B2 ++ (_ :: F))) from g6)
  refine zAa (w_p (zAf (o := 2) (i := 2) underlying31 rfl sizeOf29 rfl rfl rfl) rfl (w_p (zAj isAgg29 ga rfl rfl (zAk (i := 1) (vs := [_]) rfl rfl)) rfl (w_p (zCc (fv := []) (cv := [_]) rfl rfl rfl rfl) rfl ?_)))
  refine zAr zAc call102 rfl rfl rfl rfl (c102 (F := _ :: ((b3, blk 31 (m.cells p)) :: F)) _ _ m.trains hlt hm.t.cons.cons 6 (.func (.func 103) #[] #[.pointer (some ⟨b3,0, none⟩)]) (trainE m) (fun _ B => B = []) [] rfl (fun _ i hi X B w hI hs => zDd call103 ((c103 (F := X ++ (B ++ _)) m p hm.cons.cons.app.app i m.trains[i] _ (Ats.mono (zAk (i := 1) (vs := m.cells p) (L := _ :: ((b3, blk 31 (m.cells p)) :: F)) rfl rfl) fun _ h => h.drop.drop) _ hs).mono fun u w2 h => ⟨h.1, B, fun _ => hI, h.2⟩)) ga) ?_
  rintro _ gM ⟨rfl, B3, h_B3, g7⟩
  replace g7 := (show St _ _ (B3 ++ (_ :: _ :: F)) from g7)
  refine w_p (zAi (v := .tuple _) rfl rfl) rfl (w_p (zAp (v := .int _ _) rfl rfl rfl) rfl (w_p (zAp (v := .int _ _) rfl rfl rfl) rfl (zBe rfl rfl (zBe rfl rfl (zAd (zAb (gt _ _ (zAe (fun gN gu => (zAe (fun gP gv => (zAa (zAz rfl rfl ?_)))))))))))))
  refine w_p (zB2 rfl rfl rfl rfl) rfl (zAd (zAb (gv _ _ (zAu rfl rfl (fun g4 => ?_) (fun g4 => ?_)))))
  ·
   try simp only [zS] at g4
   refine zAe (fun gQ gw => (zAa (zAz rfl rfl (zAz rfl rfl (zA5 rfl rfl (zBe rfl rfl (zBe rfl rfl (zAd (zAb (gw _ _ (zAy (zAg (zA1 (l := [.tmp 2, .tmp 3, .tmp 4]) (vs := [_,_,_]) rfl ⟨⟨rfl, (rfl : _ = Value.int _ _)⟩, ⟨rfl, (rfl : _ = Value.int _ _)⟩, ⟨rfl, (rfl : _ = Value.int _ _)⟩, trivial⟩ ?_)))))))))))))
   refine ⟨tup3 ?_, g7.drop.tail.tail⟩; unfold check; simp [g0, g3, g4]
  try simp only [zS] at g4
  refine zAs (zAb (gu _ _ (zAe (fun gR gx => (zAa (zA5 rfl rfl (zA5 rfl rfl (zA5 rfl rfl (zAd (zAb (gx _ _ (zAy (zA1 (l := [.tmp 2, .tmp 3, .tmp 4]) (vs := [_,_,_]) rfl ⟨⟨rfl, (rfl : _ = Value.int _ _)⟩, ⟨rfl, (rfl : _ = Value.int _ _)⟩, ⟨rfl, (rfl : _ = Value.int _ _)⟩, trivial⟩ ?_)))))))))))))
  refine ⟨tup3 ?_, g7.drop.tail.tail⟩; unfold check; simp [g0, g3, g4]

end Go.Proofs.Sb
/- Plain words of the shop layer: valid markets, which trains go, what sets of shops lack. No conditions. -/
namespace Go.Rt.Sh
structure Market.Ok (m : Market) : Prop where
  lr : m.rooms.length ≤ 3
  ls : m.shops.length ≤ 4
  lt : m.trains.length ≤ 6
  room : ∀ r ∈ m.rooms, 0 ≤ r.lo ∧ r.lo ≤ r.hi ∧ r.hi ≤ 200 ∧ 0 ≤ r.fro ∧ r.fro ≤ r.las ∧ r.las ≤ 9
  shop : ∀ s ∈ m.shops, 0 ≤ s.day ∧ s.day ≤ 9 ∧ 1 ≤ s.want ∧ s.want ≤ 60
  train : ∀ t ∈ m.trains, 0 ≤ t.room ∧ t.room < m.rooms.length ∧ 0 ≤ t.shop ∧ t.shop < m.shops.length ∧ 0 ≤ t.days ∧ t.days ≤ 6 ∧ 1 ≤ t.cap ∧ t.cap ≤ 60
theorem zFn {α : Type} (err : List α → α → Int) : ∀ (l b : List α) (i : Int), (firstE err b i l).2 = 0 → ∀ k (h : k < l.length), err (b ++ l.take k) l[k] = 0
  | [], _,_,_, k, h => by simp at h
  | x :: l, b, i, h, k, hk => by
    unfold firstE at h
    by_cases he : err b x = 0
    · rw [if_pos he] at h
      match k with
      | 0 => simpa using he
      | k + 1 =>
        have := zFn err l (b ++ [x]) (i + 1) h k (by simpa using hk)
        simpa using this
    · rw [if_neg he] at h; exact absurd h he
theorem zEh {α : Type} {err : List α → α → Int} {most : Int} {l : List α} (h : (failE err most l).2 = 0) : (l.length : Int) ≤ most ∧ ∀ k (h : k < l.length), err (l.take k) l[k] = 0 := by
  unfold failE at h
  split at h
  · simp at h
  · exact ⟨by omega, fun k hk => by have := zFn err l [] 0 h k hk; simpa using this⟩
theorem zGn {m : Market} (h : (check m).2.2 = 0) : (failE roomE 3 m.rooms).2 = 0 ∧ (failE shopE 4 m.shops).2 = 0 ∧ (failE (trainE m) 6 m.trains).2 = 0 := by
  unfold check at h
  split at h
  · rename_i h1; exact absurd h h1
  · rename_i h1
    split at h
    · rename_i h2; exact absurd h h2
    · rename_i h2
      split at h
      · rename_i h3; exact absurd h h3
      · rename_i h3; exact ⟨by simpa using h1, by simpa using h2, by simpa using h3⟩
theorem roomE_zero {b : List Room} {r : Room} (h : roomE b r = 0) : 0 ≤ r.lo ∧ r.lo ≤ r.hi ∧ r.hi ≤ 60 ∧ 0 ≤ r.fro ∧ r.fro ≤ r.las ∧ r.las ≤ 9 := by
  unfold roomE at h
  split at h
  · rename_i h1; exact absurd h h1
  · unfold roomOwn out at h
    simp only [Bool.or_eq_true, decide_eq_true_eq] at h
    split at h
    · omega
    · split at h <;> omega
theorem shopE_zero {b : List Shop} {s : Shop} (h : shopE b s = 0) : 0 ≤ s.day ∧ s.day ≤ 9 ∧ 1 ≤ s.want ∧ s.want ≤ 60 := by
  unfold shopE at h
  split at h
  · rename_i h1; exact absurd h h1
  · unfold shopOwn out at h
    simp only [Bool.or_eq_true, decide_eq_true_eq] at h
    split at h <;> omega
theorem trainE_zero {m : Market} {b : List Train} {t : Train} (h : trainE m b t = 0) : 0 ≤ t.room ∧ t.room < m.rooms.length ∧ 0 ≤ t.shop ∧ t.shop < m.shops.length ∧ 0 ≤ t.days ∧ t.days ≤ 5 ∧ 1 ≤ t.cap ∧ t.cap ≤ 60 := by
  unfold trainE out at h
  simp only [Bool.or_eq_true, decide_eq_true_eq] at h
  split at h
  · omega
  · split at h <;> omega
theorem check_ok {m : Market} (h : (check m).2.2 = 0) : m.Ok := by
  obtain ⟨h1, h2, h3⟩ := zGn h
  have f1 := zEh h1
  have f2 := zEh h2
  have f3 := zEh h3
  refine ⟨by omega, by omega, by omega, fun r hr => ?_, fun s hs => ?_, fun t ht => ?_⟩
  · obtain ⟨k, hk, rfl⟩ := List.getElem_of_mem hr
    have := roomE_zero (f1.2 k hk); omega
  · obtain ⟨k, hk, rfl⟩ := List.getElem_of_mem hs
    have := shopE_zero (f2.2 k hk); omega
  · obtain ⟨k, hk, rfl⟩ := List.getElem_of_mem ht
    have := trainE_zero (f3.2 k hk); omega
def leaves (m : Market) (t : Train) : Bool := match m.rooms[t.room.toNat]?, m.shops[t.shop.toNat]? with
  | some r, some s => !out r.fro r.las (s.day - t.days)
  | _, _ => false
theorem leaves_at {m : Market} {t : Train} (h1 : t.room.toNat < m.rooms.length) (h2 : t.shop.toNat < m.shops.length) : leaves m t = !out m.rooms[t.room.toNat].fro m.rooms[t.room.toNat].las (m.shops[t.shop.toNat].day - t.days) := by
  unfold leaves; rw [List.getElem?_eq_getElem h1, List.getElem?_eq_getElem h2]
def bit (b j : Nat) : Nat := (b >>> j) &&& 1
theorem bit_le (b j : Nat) : bit b j ≤ 1 := by unfold bit; exact Nat.and_le_right
def capsU (m : Market) (fro : Int) (b : Nat) : Nat → List Int
  | 0 => [0,0,0]
  | i + 1 => match m.trains[i]? with
    | some t => if (i : Int) < fro ∨ bit b t.shop.toNat = 0 ∨ leaves m t = false then capsU m fro b i else (capsU m fro b i).set t.room.toNat ((capsU m fro b i).getD t.room.toNat 0 + t.cap)
    | none => capsU m fro b i
def wantU (x : List Int) (b : Nat) : Nat → Int
  | 0 => 0
  | i + 1 => wantU x b i + x.getD (3 + i) 0 * (bit b i : Int)
def handU (c x : List Int) : Nat → Int
  | 0 => 0
  | i + 1 => handU c x i + min (c.getD i 0) (x.getD i 0)
def lackB (m : Market) (x : List Int) (b : Nat) : Int := wantU x b 4 - handU (capsU m (x.getD 7 0) b m.trains.length) x 3
def lacksV (m : Market) (x : List Int) : List Int := (List.range 16).map (lackB m x)
def lacksTo (m : Market) (x : List Int) (b : Nat) : List Int := (List.range 16).map fun k => if k < b then lackB m x k else 0
theorem zBq (m : Market) (x : List Int) (b : Nat) : (lacksTo m x b).length = 16 := by simp [lacksTo]
theorem zBz (m : Market) (x : List Int) : (lacksV m x).length = 16 := by simp [lacksV]
theorem lacksTo_zero (m : Market) (x : List Int) : lacksTo m x 0 = List.replicate 16 0 := by
  rfl
theorem lacksTo_all (m : Market) (x : List Int) : lacksTo m x 16 = lacksV m x := by
  unfold lacksTo lacksV
  refine List.map_congr_left fun k hk => ?_
  rw [List.mem_range] at hk
  rw [if_pos hk]
theorem lacksTo_succ {m : Market} {x : List Int} {b : Nat} (hb : b < 16) : (lacksTo m x b).set b (lackB m x b) = lacksTo m x (b + 1) := by
  unfold lacksTo
  apply List.ext_getElem (by simp)
  intro i h1 h2
  rw [List.getElem_set]
  simp only [List.getElem_map, List.getElem_range]
  by_cases h : b = i
  · subst h; simp
  · rw [if_neg h]
    by_cases h2 : i < b
    · rw [if_pos h2, if_pos (by omega)]
    · rw [if_neg h2, if_neg (by omega)]
theorem zB5 (m : Market) (fro : Int) (b : Nat) : ∀ i, (capsU m fro b i).length = 3
  | 0 => rfl
  | i + 1 => by
    unfold capsU
    cases m.trains[i]? with
    | none => exact zB5 m fro b i
    | some t => dsimp only; split
                · exact zB5 m fro b i
                · rw [List.length_set]; exact zB5 m fro b i
theorem zFc {m : Market} {fro : Int} {b i : Nat} (hi : i < m.trains.length) (h : (i : Int) < fro ∨ bit b m.trains[i].shop.toNat = 0 ∨ leaves m m.trains[i] = false) : capsU m fro b (i + 1) = capsU m fro b i := by
  simp only [capsU, List.getElem?_eq_getElem hi, if_pos h]
theorem zF5 {m : Market} {fro : Int} {b i : Nat} (hi : i < m.trains.length) (h : ¬ ((i : Int) < fro ∨ bit b m.trains[i].shop.toNat = 0 ∨ leaves m m.trains[i] = false)) : capsU m fro b (i + 1) = (capsU m fro b i).set m.trains[i].room.toNat ((capsU m fro b i).getD m.trains[i].room.toNat 0 + m.trains[i].cap) := by
  simp only [capsU, List.getElem?_eq_getElem hi, if_neg h]
theorem zHw {m : Market} (hok : m.Ok) (fro : Int) (b : Nat) : ∀ i, i ≤ m.trains.length → ∀ z ∈ capsU m fro b i, 0 ≤ z ∧ z ≤ 60 * (i : Int)
  | 0, _, z, hz => by simp [capsU] at hz; omega
  | i + 1, hi, z, hz => by
    have ih := zHw hok fro b i (by omega)
    have ht := hok.train _ (List.getElem_mem (show i < m.trains.length by omega))
    by_cases h : (i : Int) < fro ∨ bit b (m.trains[i]'(by omega)).shop.toNat = 0 ∨ leaves m (m.trains[i]'(by omega)) = false
    · rw [zFc (by omega) h] at hz
      have := ih z hz; omega
    · rw [zF5 (by omega) h] at hz
      rcases List.mem_or_eq_of_mem_set hz with h1 | h1
      · have := ih z h1; omega
      · have hg : 0 ≤ (capsU m fro b i).getD (m.trains[i]'(by omega)).room.toNat 0 ∧ (capsU m fro b i).getD (m.trains[i]'(by omega)).room.toNat 0 ≤ 60 * (i : Int) := by
          by_cases hl : (m.trains[i]'(by omega)).room.toNat < (capsU m fro b i).length
          · have := ih _ (List.getElem_mem hl); simpa [List.getD, hl] using this
          · simp [List.getD, hl]; omega
        omega
theorem zFv {l : List Int} {a b : Int} (ha : a ≤ 0) (hb : 0 ≤ b) (h : ∀ z ∈ l, a ≤ z ∧ z ≤ b) (i : Nat) : a ≤ l.getD i 0 ∧ l.getD i 0 ≤ b := by
  by_cases hl : i < l.length
  · have := h _ (List.getElem_mem hl); simpa [List.getD, hl] using this
  · simp [List.getD, hl]; omega
theorem mul_bit {a n : Int} {b j : Nat} (ha : 0 ≤ a) (h : -a ≤ n ∧ n ≤ a) : -a ≤ n * (bit b j : Int) ∧ n * (bit b j : Int) ≤ a := by
  have h1 := bit_le b j
  have h2 : bit b j = 0 ∨ bit b j = 1 := by omega
  rcases h2 with h2 | h2
  · rw [h2]; simp; omega
  · rw [h2]; simp; omega
theorem zGa {x : List Int} (hx : ∀ z ∈ x, -10000 ≤ z ∧ z ≤ 10000) (b : Nat) : ∀ i : Nat, -(10000 * (i : Int)) ≤ wantU x b i ∧ wantU x b i ≤ 10000 * (i : Int)
  | 0 => by simp [wantU]
  | i + 1 => by
    have ih := zGa hx b i
    have h1 := zFv (by omega) (by omega) hx (3 + i)
    have h2 := mul_bit (b := b) (j := i) (a := 10000) (by omega) h1
    unfold wantU
    omega
theorem zHs {c x : List Int} (hc : ∀ z ∈ c, -10000 ≤ z ∧ z ≤ 10000) (hx : ∀ z ∈ x, -10000 ≤ z ∧ z ≤ 10000) : ∀ i : Nat, -(10000 * (i : Int)) ≤ handU c x i ∧ handU c x i ≤ 10000 * (i : Int)
  | 0 => by simp [handU]
  | i + 1 => by
    have ih := zHs hc hx i
    have h1 := zFv (by omega) (by omega) hx i
    have h2 := zFv (by omega) (by omega) hc i
    unfold handU
    omega
end Go.Rt.Sh
/- Plain words of the shop layer: what the program's help functions return, as they go. No conditions. -/
namespace Go.Rt.Sh
def enterE (m : Market) (n : Int) (l : List Int) : Int := if (check m).2.2 ≠ 0 then (check m).2.2 else if l.any (out 0 (n - 1)) then 4 else 0
theorem zDx {m : Market} {n : Int} {l : List Int} (h : ¬ (check m).2.2 = 0) : enterE m n l = (check m).2.2 := by unfold enterE; rw [if_pos h]
theorem zDw {m : Market} {n : Int} {l : List Int} (h : (check m).2.2 = 0) (h2 : l.any (out 0 (n - 1)) = true) : enterE m n l = 4 := by unfold enterE; rw [if_neg (by simpa using h), if_pos h2]
theorem zFs {m : Market} {n : Int} {l : List Int} (h : (check m).2.2 = 0) (h2 : l.any (out 0 (n - 1)) = false) : enterE m n l = 0 := by unfold enterE; rw [if_neg (by simpa using h), if_neg (by simp [h2])]
theorem zGz {m : Market} {n : Int} {l : List Int} (h : enterE m n l = 0) : (check m).2.2 = 0 ∧ ∀ x ∈ l, 0 ≤ x ∧ x < n := by
  unfold enterE at h
  split at h
  · rename_i h1; exact absurd h h1
  · rename_i h1
    split at h
    · cases h
    · rename_i h2
      refine ⟨by simpa using h1, fun x hx => ?_⟩
      have : out 0 (n - 1) x = false := by
        cases hh : out 0 (n - 1) x with
        | false => rfl
        | true => exact absurd (List.any_eq_true.2 ⟨x, hx, hh⟩) h2
      simp [out] at this
      omega
theorem zEv {m : Market} {n : Int} : enterE m n [] = (check m).2.2 := by
  unfold enterE
  split
  · rfl
  · rename_i h; simp at h ⊢; exact h.symm
def listL (b : Nat) : Nat → List Int
  | 0 => []
  | n + 1 => listL b n ++ if bit b n = 1 then [(n : Int)] else []
theorem zDh (b : Nat) : ∀ n, (listL b n).length ≤ n
  | 0 => by simp [listL]
  | n + 1 => by have := zDh b n; simp only [listL, List.length_append]; split <;> simp <;> omega
def listTo (b n k : Nat) : List Int := listL b k ++ List.replicate (n - (listL b k).length) 0
theorem zJh (b n k : Nat) (h : k ≤ n) : (listTo b n k).length = n := by have := zDh b k; simp [listTo]; omega
theorem listTo_zero (b n : Nat) : listTo b n 0 = List.replicate n 0 := by simp [listTo, listL]
theorem zF2 {b k : Nat} (h : bit b k = 1) : listL b (k + 1) = listL b k ++ [(k : Int)] := by simp [listL, h]
theorem zHb {b k : Nat} (h : ¬ bit b k = 1) : listL b (k + 1) = listL b k := by simp [listL, h]
theorem listTo_yes {b n k : Nat} (hk : k < n) (h : bit b k = 1) : (listTo b n k).set (listL b k).length k = listTo b n (k + 1) := by
  have := zDh b k
  unfold listTo
  rw [zF2 h, List.set_append_right _ _ (Nat.le_refl _), Nat.sub_self, List.length_append, List.length_singleton]
  obtain ⟨q, hq⟩ : ∃ q, n - (listL b k).length = q + 1 := ⟨n - (listL b k).length - 1, by omega⟩
  rw [hq, List.replicate_succ, List.set_cons_zero, show n - ((listL b k).length + 1) = q by omega]
  simp
theorem listTo_no {b n k : Nat} (h : ¬ bit b k = 1) : listTo b n k = listTo b n (k + 1) := by unfold listTo; rw [zHb h]
theorem listTo_take (b n : Nat) : (listTo b n n).take (listL b n).length = listL b n := by simp [listTo]
def before (a b : List Int) : Bool := decide (a.length < b.length) || (decide (a.length = b.length) && less a b)
def orBits : Nat → List Int → Option Nat
  | s, [] => some s
  | s, x :: l => if 0 < s >>> x.toNat then none else orBits (s ||| (1 <<< x.toNat)) l
theorem zEu {s : Nat} {l : List Int} {i : Nat} (hi : i < l.length) (h : 0 < s >>> l[i].toNat) : orBits s (l.drop i) = none := by rw [List.drop_eq_getElem_cons hi]; simp [orBits, h]
theorem orBits_step {s : Nat} {l : List Int} {i : Nat} (hi : i < l.length) (h : ¬ 0 < s >>> l[i].toNat) : orBits s (l.drop i) = orBits (s ||| (1 <<< l[i].toNat)) (l.drop (i + 1)) := by rw [List.drop_eq_getElem_cons hi]; simp only [orBits, if_neg h]
theorem zJd {s : Nat} {l : List Int} {i : Nat} (hi : l.length ≤ i) : orBits s (l.drop i) = some s := by rw [List.drop_of_length_le hi]; rfl
theorem or_small {s x : Nat} (h : s < 16) (hx : x < 4) : s ||| (1 <<< x) < 16 := by
  refine Nat.or_lt_two_pow (n := 4) h ?_
  match x, hx with
  | 0, _ => decide
  | 1, _ => decide
  | 2, _ => decide
  | 3, _ => decide
def someE (m : Market) (l : List Int) : Int := if enterE m m.shops.length l ≠ 0 then enterE m m.shops.length l else match orBits 0 l with | none => 2 | some _ => 0
def someS (l : List Int) : Nat := (orBits 0 l).getD 0
def handsTo (m : Market) (most : Bool) : Nat → List Int
  | 0 => List.replicate 8 0
  | i + 1 => (handsTo m most i).set i (match m.rooms[i]? with | some r => if most then r.hi else r.lo | none => 0)
def wantsTo (m : Market) (most : Bool) : Nat → List Int
  | 0 => handsTo m most m.rooms.length
  | i + 1 => (wantsTo m most i).set (3 + i) (match m.shops[i]? with | some s => s.want | none => 0)
def allX (m : Market) (most : Bool) : List Int := wantsTo m most m.shops.length
theorem zDl (m : Market) (b : Bool) : ∀ i, (handsTo m b i).length = 8
  | 0 => rfl
  | i + 1 => by simp [handsTo, zDl m b i]
theorem zDk (m : Market) (b : Bool) : ∀ i, (wantsTo m b i).length = 8
  | 0 => zDl m b _
  | i + 1 => by simp [wantsTo, zDk m b i]
theorem zDt (m : Market) (b : Bool) : (allX m b).length = 8 := zDk m b _
theorem handsTo_no {m : Market} {i : Nat} (hi : i < m.rooms.length) : (handsTo m false i).set i m.rooms[i].lo = handsTo m false (i + 1) := by simp [handsTo, List.getElem?_eq_getElem hi]
theorem handsTo_yes {m : Market} {i : Nat} (hi : i < m.rooms.length) : ((handsTo m true i).set i m.rooms[i].lo).set i m.rooms[i].hi = handsTo m true (i + 1) := by simp [handsTo, List.getElem?_eq_getElem hi]
theorem wantsTo_succ {m : Market} {b : Bool} {i : Nat} (hi : i < m.shops.length) : (wantsTo m b i).set (3 + i) m.shops[i].want = wantsTo m b (i + 1) := by simp [wantsTo, List.getElem?_eq_getElem hi]
def worstStep (n sub : Nat) (lk : List Int) (s : List Int × Int) (b : Nat) : List Int × Int :=
  if bitDiff b sub ≠ 0 ∨ lk.getD b 0 < 1 ∨ lk.getD b 0 < s.2 then s else if s.2 < lk.getD b 0 ∨ before (listL b n) s.1 = true then (listL b n, lk.getD b 0) else s
def worstTo (n sub : Nat) (lk : List Int) : Nat → List Int × Int
  | 0 => ([], 0)
  | k + 1 => worstStep n sub lk (worstTo n sub lk k) k
def worst (m : Market) (x : List Int) (sub : Nat) : List Int × Int := worstTo m.shops.length sub (lacksV m x) 16
def servedS (m : Market) (x : List Int) (sub : Nat) : Bool := decide ((worst m x sub).2 = 0)
theorem zCr {n sub k : Nat} {lk : List Int} (h : bitDiff k sub ≠ 0 ∨ lk.getD k 0 < 1 ∨ lk.getD k 0 < (worstTo n sub lk k).2) : worstTo n sub lk k = worstTo n sub lk (k + 1) := by simp only [worstTo, worstStep]; rw [if_pos h]
theorem zEd {n sub k : Nat} {lk : List Int} (h1 : bitDiff k sub = 0) (h2 : 1 ≤ lk.getD k 0) (h3 : (worstTo n sub lk k).2 ≤ lk.getD k 0) (h : (worstTo n sub lk k).2 < lk.getD k 0 ∨ before (listL k n) (worstTo n sub lk k).1 = true) : (listL k n, lk.getD k 0) = worstTo n sub lk (k + 1) := by
  simp only [worstTo, worstStep]; rw [if_neg (by omega), if_pos h]
theorem zD3 {n sub k : Nat} {lk : List Int} (h1 : bitDiff k sub = 0) (h2 : 1 ≤ lk.getD k 0) (h3 : (worstTo n sub lk k).2 ≤ lk.getD k 0) (h : lk.getD k 0 ≤ (worstTo n sub lk k).2) (h5 : before (listL k n) (worstTo n sub lk k).1 = false) : worstTo n sub lk k = worstTo n sub lk (k + 1) := by
  simp only [worstTo, worstStep]; rw [if_neg (by omega), if_neg (by rw [h5]; simp only [Bool.false_eq_true, or_false]; omega)]
theorem worstTo_pos (n sub : Nat) (lk : List Int) : ∀ k, 0 ≤ (worstTo n sub lk k).2
  | 0 => by simp [worstTo]
  | k + 1 => by
    have := worstTo_pos n sub lk k
    simp only [worstTo, worstStep]
    split
    · exact this
    · split
      · show 0 ≤ lk.getD k 0; omega
      · exact this
theorem worstTo_len (n sub : Nat) (lk : List Int) : ∀ k, (worstTo n sub lk k).1.length ≤ n
  | 0 => by simp [worstTo]
  | k + 1 => by
    have := worstTo_len n sub lk k
    simp only [worstTo, worstStep]
    split
    · exact this
    · split
      · exact zDh k n
      · exact this
def withoutStep (m : Market) (l : List Int) (b : Nat) : List Int :=
  if before (listL b m.shops.length) l && servedS m (allX m false) (bitDiff (1 <<< m.shops.length - 1) b) then listL b m.shops.length else l
def withoutTo (m : Market) : Nat → List Int
  | 0 => listL (1 <<< m.shops.length - 1) m.shops.length
  | k + 1 => withoutStep m (withoutTo m k) k
def withoutL (m : Market) : List Int := withoutTo m (1 <<< m.shops.length - 1)
theorem zF9 (m : Market) : ∀ k, (withoutTo m k).length ≤ m.shops.length
  | 0 => zDh _ _
  | k + 1 => by
    have := zF9 m k
    simp only [withoutTo, withoutStep]
    split
    · exact zDh _ _
    · exact this
end Go.Rt.Sh
