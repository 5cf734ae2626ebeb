/- Own texts of this claim, joined. No conditions. -/
import Derived.Test.YtpbchcophgpchaaGreatHTopGradeda
import Derived.Test.YtpbchcophgpchaaGreatHTopGradedb
import Derived.Test.YtpbchcophgpchaaGreatHTopGradedc
import Derived.Test.YtpbchcophgpchaaGreatHTopGradedd
import Derived.Test.YtpbchcophgpchaaGreatHTopGradede
import Derived.Test.YtpbchcophgpchaaGreatHTopGradedf
set_option linter.unusedVariables false
set_option linter.unusedSimpArgs false
set_option maxRecDepth 20000
namespace Go.Proofs.Hn
open Go.Proofs.Tryz
open Go.Rt Go.Rt.Ha
attribute [local irreducible] WL WC Con Yd At Ats Sl Agree DW
theorem Try_HWa_fb6 (x0 : Option Addr) (l0 c0 : Nat) (w : World) : (Instr.buildSlice 40 1 [(0, .slice x0 l0 c0)].toArray).run Tryz.prog w = .ok (.slice (some ⟨w.heap.size, 0, none⟩) 1 1) (w.alloc (Go.Rt.blk 43 [.slice x0 l0 c0])) := by kernel_rfl
theorem felt_all {l : Lot} (hok : l.Ok) : (felt l.bunches).length ≤ 4096 := by
  have h := feltTo_len hok (Nat.le_refl l.bunches.length); rw [feltTo_all] at h; exact h
theorem c6 {w0 w : World} {F : List (Nat × Obj)} (l : Lot) (p : At3) (hm : LIn w0 F l p) (hok : l.Ok) (abt : Option Addr) (cbt : Nat) (bt : List Int) (hbl : bt.length ≤ 9223372036854775807) (hbs : Sl w0 F abt 1 (bt.map fun x => [Value.int .i64 x])) (hs : St w0 w F) :
  Con Tryz.prog 6 [.agg (l.cells p).toArray, .slice abt bt.length cbt] w fun v w' => ∃ (B : List (Nat × Obj)) (vs : List Value) (a : Option Addr) (c : Nat), v = .slice a (waysR l bt).length c ∧ Sl w0 B a 1 (vs.map fun v => [v]) ∧ EL w0 B vs (waysR l bt) ∧ St w0 w' (B ++ F) := by
  refine zAw (n := 59) func6 rfl rfl (Nat.le_of_ble_eq_true rfl) ?_
  have hlc := hok.lc
  have hlb := hok.lb
  refine zAg (fun K2 hK1 => ?_)
  refine zAb (zB3 (v := .agg #[.slice _ _ _, .slice _ _ _, .slice _ _ _]) (cs := [_, _, _]) zAa rfl rfl rfl hs (fun b3 w4 hs5 => ?_))
  refine w_p (zAc (v := _) rfl rfl) rfl ?_
  refine zAf (zAd (hK1 _ _ ?_))
  refine zAg (fun K7 hK6 => ?_)
  have hbx := ats_ofR (i := 0) (vs := l.cells p) hs5 rfl rfl
  refine zAb (w_p (zA6 (vs := [_, _, _]) isAgg26 sizeOf26 hs5 rfl rfl hbx) rfl ?_)
  refine zAt zAa call20 rfl rfl rfl rfl (c20 l p hm.cons hok hs5) ?_
  rintro _ w9 ⟨FB, fv, aF, cF, rfl, hslF, helF, hs10⟩
  replace hs10 := (show St _ _ (FB ++ (_ :: F)) from hs10)
  have hfl := felt_all hok
  refine w_p (zAc (v := .slice _ _ _) rfl rfl) rfl ?_
  refine zAf (zAd (hK6 _ _ ?_))
  refine zAg (fun K12 hK11 => ?_)
  refine zAb (w_p (zAc (v := _) rfl rfl) rfl ?_)
  refine zAf (zAd (hK11 _ _ ?_))
  refine zAg (fun K14 hK13 => ?_)
  refine zAg (fun K16 hK15 => ?_)
  refine zAb (w_p (zAc (v := _) rfl rfl) rfl ?_)
  refine zAf (zAd (hK15 _ _ ?_))
  refine zAy ?_
  refine zBp [6, 7, 8, 9, 12, 13, 14, 15, 16, 17, 18, 19, 20, 21, 22, 23, 24, 25, 26, 27, 28, 29, 30, 31, 32, 33, 34, 35, 36, 37, 38, 39, 40, 41, 42, 43, 44, 45, 46, 47, 48, 49, 50, 51, 52, 53, 54, 55, 56, 57] [6, 7] (fun kk vs0 w => ∃ (i : Nat) (v : Value) (OB : List (Nat × Obj)) (ws : List Value), vs0 = [v, .int .i64 i] ∧ i ≤ (felt l.bunches).length ∧ kk = (felt l.bunches).length - i ∧ Rt.Own v 43 1 (((felt l.bunches).take i).filter (fun h => soR bt h 0 l.counts)).length ws OB ∧ EL w0 FB ws (((felt l.bunches).take i).filter (fun h => soR bt h 0 l.counts)) ∧ St w0 w (OB ++ (FB ++ ((b3, blk 26 (l.cells p)) :: F)))) ((felt l.bunches).length) ?_ ?_
  ·
   exact ⟨0, _, [], [], rfl, by omega, by omega, own_nil 43 1, EL.nil _ _, hs10⟩
  intro k vs μ w19 hI K18 hN17
  obtain ⟨i, v, OB, ws, rfl, hia, rfl, hown, hel, hs⟩ := hI
  refine zAg (fun K21 hK20 => ?_)
  refine zAg (fun K23 hK22 => ?_)
  refine zAb (w_p (zAe (v := .int _ _) rfl rfl) rfl ?_)
  refine w_p (zAe (v := .slice _ _ _) rfl rfl) rfl ?_
  refine w_p (zBd underlying40 rfl rfl) rfl ?_
  refine w_p (zBt rfl rfl rfl rfl) rfl ?_
  refine zAf (zAd (hK22 _ _ ?_))
  refine zAz rfl rfl (fun h24 => ?_) (fun h24 => ?_)
  ·
   try simp only [zS] at h24
   refine zAx (zAd (hK20 _ _ ?_))
   refine zAg (fun K26 hK25 => ?_)
   refine zAy ?_
   refine zAg (fun K28 hK27 => ?_)
   have hi2 : i < (felt l.bunches).length := by omega
   obtain ⟨bx, ox, bq3, c3, haF, hx0, hsx0, hnx⟩ := el_at hslF helF hi2
   subst haF
   have hx := hx0.top (F := (b3, blk 26 (l.cells p)) :: F)
   have hin := felt_num hok (List.getElem_mem hi2)
   have hwl : (((felt l.bunches).take i).filter (fun h => soR bt h 0 l.counts)).length ≤ i := by have := List.length_filter_le (fun h => soR bt h 0 l.counts) ((felt l.bunches).take i); rw [List.length_take] at this; omega
   refine zAb (w_p (zAc (v := _) rfl rfl) rfl ?_)
   refine zAf (zAd (hK27 _ _ ?_))
   refine zAg (fun K30 hK29 => ?_)
   refine zAg (fun K32 hK31 => ?_)
   refine zAb (w_p (zAc (v := _) rfl rfl) rfl ?_)
   refine zAf (zAd (hK31 _ _ ?_))
   refine zAy ?_
   refine zBp [8, 9, 18, 19, 20, 21, 22, 23, 24, 25, 26, 27, 28, 29, 30, 31, 32, 33, 34, 35, 36, 37, 38, 39, 40, 41, 42, 43, 44, 45, 46, 47, 48, 49] [8, 9] (fun kk vs0 w => ∃ (k : Nat), vs0 = [.bool (soR bt ((felt l.bunches)[i]'hi2) 0 (l.counts.take k)), .int .i64 k] ∧ k ≤ l.counts.length ∧ kk = l.counts.length - k ∧ St w0 w (OB ++ (FB ++ ((b3, blk 26 (l.cells p)) :: F)))) (l.counts.length) ?_ ?_
   ·
    exact ⟨0, rfl, by omega, by omega, hs⟩
   intro k vs μ w35 hI K34 hN33
   obtain ⟨k, rfl, hka, rfl, hs⟩ := hI
   generalize hsk : soR bt ((felt l.bunches)[i]'hi2) 0 (l.counts.take k) = sk
   refine zAg (fun K37 hK36 => ?_)
   refine zAg (fun K39 hK38 => ?_)
   refine zAb (w_p (zAe (v := .int _ _) rfl rfl) rfl ?_)
   refine w_p (zAh (o := 2) (i := 2) underlying26 rfl sizeOf24 rfl rfl rfl) rfl ?_
   refine w_p (zAk isAgg24 hs.drop.drop rfl rfl (show Ats _ _ _ _ [_] from Ats.part hbx 2 1)) rfl ?_
   refine w_p (zBd underlying24 rfl rfl) rfl ?_
   refine w_p (zBt rfl rfl rfl rfl) rfl ?_
   refine zAf (zAd (hK38 _ _ ?_))
   refine zAz rfl rfl (fun h40 => ?_) (fun h40 => ?_)
   ·
    try simp only [zS] at h40
    refine zAx (zAd (hK36 _ _ ?_))
    refine zAg (fun K42 hK41 => ?_)
    refine zAy ?_
    have hk2 : k < l.counts.length := by omega
    obtain ⟨by_, oy, hby, hy⟩ := sl_crows hm.c hk2
    have hcc := hok.count _ (List.getElem_mem hk2)
    have hp64 := pow64 hlb
    refine zB7 [] [(0, 0), (1, 0), (2, 0), (3, 0), (4, 2), (5, 0), (6, 0), (7, 1), (8, 0), (9, 0), (10, 1), (11, 0), (12, 0), (13, 0), (14, 1), (16, 0), (17, 1), (18, 0), (19, 0), (20, 0), (21, 1), (15, 2), (22, 0), (23, 0), (24, 0), (25, 0)] zBu (drawOK_of (by kernel_rfl)) hs (fun w43 hs44 => ?_)
    refine zAp rfl zAa rfl (fun _ => (zAe (v := .bool _) rfl rfl)) ?_
    refine zAp rfl zAa rfl (fun _ => (zAe (v := .bool _) rfl rfl)) ?_
    refine zDk (fun h45 => ?_) (fun h45 => ?_)
    ·
     subst h45
     refine zAp rfl (zAn rfl rfl rfl) rfl (fun _ => (zAe (v := .slice _ _ _) rfl rfl)) ?_
     refine zAp rfl (zAn rfl rfl rfl) rfl (fun _ => (zAe (v := .int _ _) rfl rfl)) ?_
     refine zCl rfl ?_
     refine zAt (zAn rfl rfl rfl) call21 rfl rfl rfl rfl (c21 _ _ bt hbl hbs.cons.app.app _ hs44) ?_
     rintro _ w47 ⟨rfl, hs48⟩
     refine zAf (qn ⟨hs48, ?_⟩)
     refine zAp rfl (zAn rfl rfl rfl) rfl (fun _ => (zAe (v := .bool _) rfl rfl)) ?_
     refine zDk (fun h49 => ?_) (fun h49 => ?_)
     ·
      try simp only [zS] at h49
      refine zBg rfl rfl rfl rfl ?_
      refine zCj rfl rfl rfl rfl hs48 ?_
      refine zBg rfl rfl rfl rfl ?_
      refine zBg rfl rfl rfl rfl ?_
      refine zCj rfl rfl rfl rfl hs48 ?_
      refine zBg rfl rfl rfl rfl ?_
      refine zBg rfl rfl rfl rfl ?_
      refine zBg rfl rfl rfl rfl ?_
      refine zCj rfl rfl rfl rfl hs48 ?_
      refine zBg rfl rfl rfl rfl ?_
      refine zCj rfl rfl rfl rfl hs48 ?_
      refine zBg rfl rfl rfl rfl ?_
      refine zBg rfl rfl rfl rfl ?_
      refine zBg rfl rfl rfl rfl ?_
      refine zCj rfl rfl rfl rfl hs48 ?_
      refine zCl rfl ?_
      refine zAi rfl rfl rfl ?_
      refine zAf (qn ⟨hs48, ?_⟩)
      refine zBg rfl rfl rfl rfl ?_
      refine zAp rfl (zAn rfl rfl rfl) rfl (fun _ => (zA0 (v := _) rfl rfl rfl rfl)) ?_
      refine zAp rfl zAa rfl (fun _ => (zA0 (v := .bool _) rfl rfl rfl rfl)) ?_
      refine zAp rfl zAa rfl (fun _ => (zAc (v := .bool _) rfl rfl)) ?_
      refine zB1 ?_
      refine zAl (zAd (hK41 _ _ ?_))
      refine zAb (w_p (zAe (v := .int _ _) rfl rfl) rfl ?_)
      refine w_p (zBf rfl rfl rfl rfl (by omega) (by omega)) rfl ?_
      refine w_p (zAc (v := .int _ _) rfl rfl) rfl ?_
      refine zAf (zAd (hN33 _ _ (Nx.intro (l.counts.length - (k + 1)) (by omega) (by repeat (first | exact zAv | refine zAu rfl ?_ | refine zAs rfl ?_ _ | refine zAr rfl ?_)) ?_)))
      first
        | exact ⟨k + 1, bi2 (by rw [soR_take hk2, hsk, (by assumption : hasI bt (k : Int) = true)]; rfl) rfl, by omega, rfl, hs48⟩
        | exact ⟨k + 1, bi2 (by rw [soR_take hk2, hsk, (by assumption : hasI bt (k : Int) = false)]; rfl) rfl, by omega, rfl, hs48⟩
        | exact ⟨k + 1, bi2 (by rw [soR_take hk2, hsk]; rfl) rfl, by omega, rfl, hs48⟩
     try simp only [zS] at h49
     refine zAp rfl (zAn rfl rfl rfl) rfl (fun _ => (zAh (o := 2) (i := 2) underlying26 rfl sizeOf24 rfl rfl rfl)) ?_
     refine zBa rfl (zAn rfl rfl rfl) rfl hs48 (fun _ hq => (yd_slice hby (zAk isAgg24 hq.drop.drop rfl rfl (show Ats _ _ _ _ [_] from Ats.part hbx 2 1)))) ?_
     refine zAp rfl (zAn rfl rfl rfl) rfl (fun _ => (zAe (v := .int _ _) rfl rfl)) ?_
     refine zAp rfl (zAn rfl rfl rfl) rfl (fun _ => (zA7 underlying24 sizeOf63 rfl rfl rfl rfl (i := _) rfl (by omega))) ?_
     refine zBa rfl (zAn rfl rfl rfl) rfl hs48 (fun _ hq => (zA6 (vs := [_, _]) isAgg63 sizeOf63 hq.drop.drop.tail rfl rfl hy)) ?_
     refine zAp rfl (zAn rfl rfl rfl) rfl (fun _ => (zAe (v := .slice _ _ _) rfl rfl)) ?_
     refine zAp rfl (zAn rfl rfl rfl) rfl (fun _ => (zAe (v := .int _ _) rfl rfl)) ?_
     refine zAp rfl (zAn rfl rfl rfl) rfl (fun _ => (zA7 underlying40 sizeOf43 rfl rfl rfl rfl (i := _) rfl (by omega))) ?_
     refine zBa rfl (zAn rfl rfl rfl) rfl hs48 (fun _ hq => (zAk isAgg43 hq.drop rfl rfl hx)) ?_
     refine zAp rfl (zAn rfl rfl rfl) rfl (fun _ => (zAh (o := 2) (i := 2) underlying26 rfl sizeOf24 rfl rfl rfl)) ?_
     refine zBa rfl (zAn rfl rfl rfl) rfl hs48 (fun _ hq => (yd_slice hby (zAk isAgg24 hq.drop.drop rfl rfl (show Ats _ _ _ _ [_] from Ats.part hbx 2 1)))) ?_
     refine zAp rfl (zAn rfl rfl rfl) rfl (fun _ => (zAe (v := .int _ _) rfl rfl)) ?_
     refine zAp rfl (zAn rfl rfl rfl) rfl (fun _ => (zA7 underlying24 sizeOf63 rfl rfl rfl rfl (i := _) rfl (by omega))) ?_
     refine zAp rfl (zAn rfl rfl rfl) rfl (fun _ => (zAh (o := 1) (i := 1) underlying63 rfl sizeOf3 rfl rfl rfl)) ?_
     refine zBa rfl (zAn rfl rfl rfl) rfl hs48 (fun _ hq => (zAk isAgg3 hq.drop.drop.tail rfl rfl (show Ats _ _ _ _ [_] from Ats.part hy 1 1))) ?_
     refine zCl rfl ?_
     refine zAt (zAn rfl rfl rfl) call22 rfl rfl rfl rfl (c22 (l.counts[k]'hk2) (by omega) _ _ ((felt l.bunches)[i]'hi2) (by omega) (fun z hz => by have := hin.2 z hz; omega) hsx0.top.app hs48) ?_
     rintro _ w51 ⟨rfl, hs52⟩
     refine zAf (qn ⟨hs52, ?_⟩)
     refine zAp rfl (zAn rfl rfl rfl) rfl (fun _ => (zBy rfl rfl rfl rfl)) ?_
     refine zAp rfl (zAn rfl rfl rfl) rfl (fun _ => (zBb (v := .bool _) rfl rfl rfl rfl)) ?_
     refine zAp rfl zAa rfl (fun _ => (zA0 (v := .bool _) rfl rfl rfl rfl)) ?_
     refine zAp rfl zAa rfl (fun _ => (zAc (v := .bool _) rfl rfl)) ?_
     refine zB1 ?_
     refine zAl (zAd (hK41 _ _ ?_))
     refine zAb (w_p (zAe (v := .int _ _) rfl rfl) rfl ?_)
     refine w_p (zBf rfl rfl rfl rfl (by omega) (by omega)) rfl ?_
     refine w_p (zAc (v := .int _ _) rfl rfl) rfl ?_
     refine zAf (zAd (hN33 _ _ (Nx.intro (l.counts.length - (k + 1)) (by omega) (by repeat (first | exact zAv | refine zAu rfl ?_ | refine zAs rfl ?_ _ | refine zAr rfl ?_)) ?_)))
     first
       | exact ⟨k + 1, bi2 (by rw [soR_take hk2, hsk, (by assumption : hasI bt (k : Int) = true)]; rfl) rfl, by omega, rfl, hs52⟩
       | exact ⟨k + 1, bi2 (by rw [soR_take hk2, hsk, (by assumption : hasI bt (k : Int) = false)]; rfl) rfl, by omega, rfl, hs52⟩
       | exact ⟨k + 1, bi2 (by rw [soR_take hk2, hsk]; rfl) rfl, by omega, rfl, hs52⟩
    subst h45
    refine zBg rfl rfl rfl rfl ?_
    refine zBg rfl rfl rfl rfl ?_
    refine zCl rfl ?_
    refine zAi rfl rfl rfl ?_
    refine zAf (qn ⟨hs44, ?_⟩)
    refine zBg rfl rfl rfl rfl ?_
    refine zCk rfl rfl rfl rfl ?_
    refine d_skip1' rfl rfl rfl rfl hs44 ?_
    refine zCk rfl rfl rfl rfl ?_
    refine zCk rfl rfl rfl rfl ?_
    refine d_skip1' rfl rfl rfl rfl hs44 ?_
    refine zCk rfl rfl rfl rfl ?_
    refine zCk rfl rfl rfl rfl ?_
    refine zCk rfl rfl rfl rfl ?_
    refine d_skip1' rfl rfl rfl rfl hs44 ?_
    refine zCk rfl rfl rfl rfl ?_
    refine d_skip1' rfl rfl rfl rfl hs44 ?_
    refine zCk rfl rfl rfl rfl ?_
    refine zCk rfl rfl rfl rfl ?_
    refine zCk rfl rfl rfl rfl ?_
    refine d_skip1' rfl rfl rfl rfl hs44 ?_
    refine zCl rfl ?_
    refine zBc rfl rfl rfl ?_
    refine zAf (qn ⟨hs44, ?_⟩)
    refine zCk rfl rfl rfl rfl ?_
    refine zBg rfl rfl rfl rfl ?_
    refine zAp rfl zAa rfl (fun _ => (zBb (v := _) rfl rfl rfl rfl)) ?_
    refine zAp rfl zAa rfl (fun _ => (zAc (v := .bool _) rfl rfl)) ?_
    refine zB1 ?_
    refine zAl (zAd (hK41 _ _ ?_))
    refine zAb (w_p (zAe (v := .int _ _) rfl rfl) rfl ?_)
    refine w_p (zBf rfl rfl rfl rfl (by omega) (by omega)) rfl ?_
    refine w_p (zAc (v := .int _ _) rfl rfl) rfl ?_
    refine zAf (zAd (hN33 _ _ (Nx.intro (l.counts.length - (k + 1)) (by omega) (by repeat (first | exact zAv | refine zAu rfl ?_ | refine zAs rfl ?_ _ | refine zAr rfl ?_)) ?_)))
    first
      | exact ⟨k + 1, bi2 (by rw [soR_take hk2, hsk, (by assumption : hasI bt (k : Int) = true)]; rfl) rfl, by omega, rfl, hs44⟩
      | exact ⟨k + 1, bi2 (by rw [soR_take hk2, hsk, (by assumption : hasI bt (k : Int) = false)]; rfl) rfl, by omega, rfl, hs44⟩
      | exact ⟨k + 1, bi2 (by rw [soR_take hk2, hsk]; rfl) rfl, by omega, rfl, hs44⟩
   try simp only [zS] at h40
   refine zBl (zAo (zAo (zA4 (zAd (hK29 _ _ ?_)))))
   refine zAg (fun K54 hK53 => ?_)
   have hkn : k = l.counts.length := by omega
   subst hkn
   rw [List.take_length] at hsk
   refine zAb (w_p (zAe (v := .bool _) rfl rfl) rfl ?_)
   refine zAf (zAd (hK53 _ _ ?_))
   refine zAz rfl rfl (fun h55 => ?_) (fun h55 => ?_)
   ·
    subst h55
    refine zAb (w_p (zAe (v := v) rfl rfl) rfl ?_)
    refine w_p (zAe (v := .slice _ _ _) rfl rfl) rfl ?_
    refine w_p (zAe (v := .int _ _) rfl rfl) rfl ?_
    refine w_p (zA7 underlying40 sizeOf43 rfl rfl rfl rfl (i := _) rfl (by omega)) rfl ?_
    refine w_p (zAk isAgg43 hs.drop rfl rfl hx) rfl ?_
    refine zBh (ps := [(0, _)]) (pv := [(0, .slice _ _ _)]) (cs := [_]) zAa rfl rfl (fun w => Try_HWa_fb6 _ _ _ w) hs (fun b56 w57 hs58 => ?_)
    refine zCw (X := (_ :: [])) (B := OB) (rows := [[_]]) (sz := 1) (bytes := 24) zAa underlying40 Try_info43 rfl rfl rfl rfl rfl rfl rfl rfl rfl hs58 hown (zBr (i := 0) rfl (by simp) rfl) rfl (by simp) (by simp [Value.oneCell']) (by simp only [maxLen]; omega) (by omega) (fun v59 w60 B61 ho62 hs63 => ?_)
    replace hs63 := (show St _ _ (_ :: B61 ++ (FB ++ (_ :: F))) from hs63)
    refine w_p (zAc (v := v59) rfl rfl) rfl ?_
    refine zAf (zAl (zAd (hK25 _ _ ?_)))
    refine zAb (w_p (zAe (v := .int _ _) rfl rfl) rfl ?_)
    refine w_p (zBf rfl rfl rfl rfl (by omega) (by omega)) rfl ?_
    refine w_p (zAc (v := .int _ _) rfl rfl) rfl ?_
    refine zAf (zAd (hN17 _ _ (Nx.intro ((felt l.bunches).length - (i + 1)) (by omega) (by repeat (first | exact zAv | refine zAu rfl ?_ | refine zAs rfl ?_ _ | refine zAr rfl ?_)) ?_)))
    exact ⟨i + 1, _, _, _, rfl, by omega, rfl, by rw [filt_yes hi2 hsk]; exact own_el ho62, by rw [filt_yes hi2 hsk]; exact hel.snoc hsx0 hnx, hs63.tail⟩
   subst h55
   refine zAx (zAl (zAd (hK25 _ _ ?_)))
   refine zAb (w_p (zAe (v := .int _ _) rfl rfl) rfl ?_)
   refine w_p (zBf rfl rfl rfl rfl (by omega) (by omega)) rfl ?_
   refine w_p (zAc (v := .int _ _) rfl rfl) rfl ?_
   refine zAf (zAd (hN17 _ _ (Nx.intro ((felt l.bunches).length - (i + 1)) (by omega) (by repeat (first | exact zAv | refine zAu rfl ?_ | refine zAs rfl ?_ _ | refine zAr rfl ?_)) ?_)))
   exact ⟨i + 1, v, OB, ws, rfl, by omega, rfl, by rw [filt_no hi2 hsk]; exact hown, by rw [filt_no hi2 hsk]; exact hel, hs⟩
  try simp only [zS] at h24
  refine zBl (zAo (zAo (zA4 (zAd (hK13 _ _ ?_)))))
  refine zAg (fun K65 hK64 => ?_)
  refine zAb (w_p (zAe (v := v) rfl rfl) rfl ?_)
  refine w_p (zAc (v := v) rfl rfl) rfl ?_
  refine zAf (zAd (hK64 _ _ ?_))
  refine zA2 (zA3 (l := [.tmp 4]) (vs := [_]) rfl ⟨⟨rfl, show _ = (v : Value) from rfl⟩, trivial⟩ ?_)
  have hin : i = (felt l.bunches).length := by omega
  subst hin
  rw [List.take_length] at hown hel
  obtain ⟨aO, cO, rfl, hslO⟩ := own_sl_id (w0 := w0) hown hel.1 FB
  exact ⟨OB ++ FB, ws, aO, cO, rfl, hslO, hel.app, zDl (by rw [List.append_assoc]; exact hs)⟩

end Go.Proofs.Hn
/- Plain words of the cable layer: ports, farms, their errors. No conditions. -/
namespace Go.Rt.Ca
structure Farm where
  name : ByteArray
  way : Int
  notice : Int
  keep : Int
  lo : Int
  hi : Int
structure Port where
  hold : Int
  clo : Int
  chi : Int
  farms : List Farm
def Farm.cells (f : Farm) : List Value := [.string f.name, .int .i64 f.way, .int .i64 f.notice, .int .i64 f.keep, .int .i64 f.lo, .int .i64 f.hi]
def Port.cells (p : Port) (a : Option Addr) (c : Nat) : List Value := [.int .i64 p.hold, .int .i64 p.clo, .int .i64 p.chi, .slice a p.farms.length c]
def rows (l : List Farm) : List (List Value) := l.map Farm.cells
/-- A farm's error, behind its name. -/
def farmErr (f : Farm) : Int := if out 1 4 f.way || (out 0 3 f.notice || out f.way 9 f.keep) then 7 else ends f.lo f.hi 0 60
def fErr (before : List ByteArray) (f : Farm) : Int := if nmOk f.name then (if has before f.name then 5 else farmErr f) else 6
def farmsErr (before : List ByteArray) (i : Int) : List Farm → Int × Int × Int
  | [] => (0, 0, 0)
  | f :: l => if fErr before f = 0 then farmsErr (before ++ [f.name]) (i + 1) l else (2, i, fErr before f)
def check (p : Port) : Int × Int × Int :=
  if out 1 200 p.hold || (out 0 10 p.clo || out 0 10 p.chi) then (1, 0, 7) else if p.chi < p.clo then (1, 0, 2) else if 3 < p.farms.length then (2, 0, 3) else farmsErr [] 0 p.farms
/-- What a farm cannot be like, in order: the error, the function, whether it is so. -/
def flawE : Nat → Int
  | 0 => 6
  | 1 => 5
  | 2 => 7
  | _ => 2
def flawIs (before : List ByteArray) (f : Farm) : Nat → Bool
  | 0 => !nmOk f.name
  | 1 => has before f.name
  | 2 => out 1 4 f.way || (out 0 3 f.notice || (out f.way 9 f.keep || (out 0 60 f.lo || out 0 60 f.hi)))
  | _ => decide (f.hi < f.lo)
theorem zDd (before : List ByteArray) (f : Farm) (j : Nat) (hj : j < 4) (h : flawIs before f j = true) (hb : ∀ i < j, flawIs before f i = false) : fErr before f = flawE j := by
  have h0 : 0 < j → flawIs before f 0 = false := fun h => hb 0 h
  have h1 : 1 < j → flawIs before f 1 = false := fun h => hb 1 h
  have h2 : 2 < j → flawIs before f 2 = false := fun h => hb 2 h
  match j, hj with
  | 0, _ => simp only [flawIs, Bool.not_eq_true'] at h; simp [fErr, h, flawE]
  | 1, _ =>
    have h0 := h0 (by omega); simp only [flawIs, Bool.not_eq_false'] at h h0; simp [fErr, h, h0, flawE]
  | 2, _ =>
    have h0 := h0 (by omega); have h1 := h1 (by omega)
    simp only [flawIs, Bool.not_eq_false'] at h h0 h1
    simp only [fErr, h0, h1, flawE, farmErr, ends, if_true, Bool.false_eq_true, if_false]
    cases ho : (out 1 4 f.way || (out 0 3 f.notice || out f.way 9 f.keep)) with
    | true => rfl
    | false =>
      simp only [Bool.or_eq_false_iff] at ho
      rw [ho.1, ho.2.1, ho.2.2] at h
      simp only [Bool.false_or] at h
      simp [h]
  | 3, _ =>
    have h0 := h0 (by omega); have h1 := h1 (by omega); have h2 := h2 (by omega)
    simp only [flawIs, Bool.not_eq_false', decide_eq_true_eq, Bool.or_eq_false_iff] at h h0 h1 h2
    simp [fErr, h0, h1, flawE, farmErr, ends, h2, h]
theorem fErr_fine (before : List ByteArray) (f : Farm) (hb : ∀ i < 4, flawIs before f i = false) : fErr before f = 0 := by
  have h0 := hb 0 (by omega); have h1 := hb 1 (by omega); have h2 := hb 2 (by omega); have h3 := hb 3 (by omega)
  simp only [flawIs, Bool.not_eq_false', Bool.or_eq_false_iff, decide_eq_false_iff_not] at h0 h1 h2 h3
  simp [fErr, h0, h1, farmErr, ends, h2, h3]
def names (l : List Farm) : List ByteArray := l.map (·.name)
theorem farmsErr_step {l : List Farm} {i : Nat} (hi : i < l.length) (h : fErr (names (l.take i)) l[i] = 0) :
    farmsErr (names (l.take i)) i (l.drop i) = farmsErr (names (l.take (i + 1))) (i + 1 : Nat) (l.drop (i + 1)) := by
  rw [List.drop_eq_getElem_cons hi]
  simp only [farmsErr, h, if_true]
  rw [List.take_succ_eq_append_getElem hi]
  simp only [names, List.map_append, List.map_cons, List.map_nil, Int.natCast_add]
  rfl
theorem zBm {l : List Farm} {i : Nat} (hi : i < l.length) (h : fErr (names (l.take i)) l[i] ≠ 0) : farmsErr (names (l.take i)) i (l.drop i) = (2, (i : Int), fErr (names (l.take i)) l[i]) := by
  rw [List.drop_eq_getElem_cons hi]
  simp only [farmsErr, if_neg h]
theorem zCf {l : List Farm} {i : Nat} (hi : l.length ≤ i) (b : List ByteArray) : farmsErr b i (l.drop i) = (0, 0, 0) := by
  rw [List.drop_of_length_le hi]; rfl
end Go.Rt.Ca
set_option maxRecDepth 20000
namespace Go.Proofs.Cb
open Go.Proofs.Tryz
open Go.Rt Go.Rt.Ca
attribute [local irreducible] WL WC Con Yd At Ats Sl Agree DW
theorem Try_CC_fb0 (x0 : Int) (w : World) : (Instr.buildSlice 43 1 [(0, .int .i64 x0)].toArray).run Tryz.prog w = .ok (.slice (some ⟨w.heap.size, 0, none⟩) 1 1) (w.alloc (Go.Rt.blk 3 [.int .i64 x0])) := by kernel_rfl
theorem Try_CC_fb1 (x0 : Int) (x1 : Int) (w : World) : (Instr.buildSlice 43 2 [(0, .int .i64 x0), (1, .int .i64 x1)].toArray).run Tryz.prog w = .ok (.slice (some ⟨w.heap.size, 0, none⟩) 2 2) (w.alloc (Go.Rt.blk 3 [.int .i64 x0, .int .i64 x1])) := by kernel_rfl
theorem Try_CC_fb2 (x0 : Int) (x1 : Go.Fn) (a1 c1 : Array Value) (w : World) : (Instr.build 148 [(0, .int .i64 x0), (1, .func x1 a1 c1)].toArray).run Tryz.prog w = .ok (.agg #[.int .i64 x0, .func x1 a1 c1]) w := by kernel_rfl
theorem Try_CC_fb3 (x0 : Int) (x1 : Go.Fn) (a1 c1 : Array Value) (x2 : Int) (x3 : Go.Fn) (a3 c3 : Array Value) (x4 : Int) (x5 : Go.Fn) (a5 c5 : Array Value) (x6 : Int) (x7 : Go.Fn) (a7 c7 : Array Value) (w : World) : (Instr.buildSlice 144 4 [(0, .agg #[.int .i64 x0, .func x1 a1 c1]), (1, .agg #[.int .i64 x2, .func x3 a3 c3]), (2, .agg #[.int .i64 x4, .func x5 a5 c5]), (3, .agg #[.int .i64 x6, .func x7 a7 c7])].toArray).run Tryz.prog w = .ok (.slice (some ⟨w.heap.size, 0, none⟩) 4 4) (w.alloc (Go.Rt.blk 148 [.int .i64 x0, .func x1 a1 c1, .int .i64 x2, .func x3 a3 c3, .int .i64 x4, .func x5 a5 c5, .int .i64 x6, .func x7 a7 c7])) := by kernel_rfl
theorem sl_farm {w0 : World} {F : List (Nat × Obj)} {a : Option Addr} {l : List Farm} {i : Nat} (h : Sl w0 F a 6 (rows l)) (hi : i < l.length) :
    ∃ b off, a = some ⟨b, off, none⟩ ∧ Ats w0 F b (off + i * 6) l[i].cells := by
  obtain ⟨b, off, ha, _, hat⟩ := h.at (i := i) (row := l[i].cells) (by simp [rows, hi])
  exact ⟨b, off, ha, hat⟩
theorem any_takeF {l : List Farm} {p : Farm → Bool} {i : Nat} (h : (l.take i).any p = false) (hi : i < l.length) (hp : p l[i] = false) : (l.take (i + 1)).any p = false := by
  rw [List.take_succ_eq_append_getElem hi, List.any_append, h]; simp [hp]
theorem c19 {w0 w : World} {F : List (Nat × Obj)} (f : Farm) (hs : St w0 w F) :
  Con Tryz.prog 19 [.agg f.cells.toArray] w fun v w' => v = .int .i64 (farmErr f) ∧ St w0 w' F := by
  refine zAw (n := 24) func19 rfl rfl (Nat.le_of_ble_eq_true rfl) ?_
  refine zAg (fun K2 hK1 => ?_)
  refine zAb (zB3 (v := .agg #[.string _, .int _ _, .int _ _, .int _ _, .int _ _, .int _ _]) (cs := [_, _, _, _, _, _]) zAa rfl rfl rfl hs (fun b3 w4 hs5 => ?_))
  refine w_p (zAc (v := _) rfl rfl) rfl ?_
  refine zAf (zAd (hK1 _ _ ?_))
  refine zAg (fun K7 hK6 => ?_)
  refine zAg (fun K9 hK8 => ?_)
  refine zAb (w_p (zAh (o := 1) (i := 1) underlying48 rfl sizeOf3 rfl rfl rfl) rfl ?_)
  refine w_p (zAk isAgg3 hs5 rfl rfl (zAj (i := 0) (vs := [_]) rfl rfl)) rfl ?_
  refine zAt zAa call12 rfl rfl rfl rfl (c12 _ _ _ hs5) ?_
  rintro _ w11 ⟨rfl, hs12⟩
  refine w_p (zDc rfl rfl) rfl ?_
  refine w_p (zAe (v := .bool _) rfl rfl) rfl ?_
  refine zBi (fun h13 => ?_) (fun h13 => ?_)
  ·
   try simp only [zS] at h13
   refine zAi rfl rfl rfl ?_
   refine zAi rfl rfl rfl ?_
   refine zAi rfl rfl rfl ?_
   refine zAi rfl rfl rfl ?_
   refine w_p (zA0 (v := _) rfl rfl rfl rfl) rfl ?_
   refine w_p (zAe (v := .bool _) rfl rfl) rfl ?_
   refine zAi rfl rfl rfl ?_
   refine zAi rfl rfl rfl ?_
   refine zAi rfl rfl rfl ?_
   refine zAi rfl rfl rfl ?_
   refine zAi rfl rfl rfl ?_
   refine zAi rfl rfl rfl ?_
   refine w_p (zA0 (v := _) rfl rfl rfl rfl) rfl ?_
   refine zAf (zAd (hK8 _ _ ?_))
   refine zCg rfl rfl ?_
   refine zAg (fun K15 hK14 => ?_)
   refine zAb (w_p (zAc (v := _) rfl rfl) rfl ?_)
   refine zAf (zAd (hK14 _ _ ?_))
   refine zA2 (zAm (zA3 (l := [.tmp 2]) (vs := [_]) rfl ⟨⟨rfl, (rfl : _ = Value.int _ _)⟩, trivial⟩ ?_))
   exact ⟨congrArg (Value.int .i64) (by unfold farmErr out; simp only [Bool.or_eq_true, decide_eq_true_eq]; split <;> first | rfl | omega), hs12.tail⟩
  try simp only [zS] at h13
  refine w_y rfl rfl rfl (zAh (o := 2) (i := 2) underlying48 rfl sizeOf3 rfl rfl rfl) rfl ?_
  refine w_y rfl rfl rfl (zAk isAgg3 hs12 rfl rfl (zAj (i := 0) (vs := [_]) rfl rfl)) rfl ?_
  refine zAt (zAn rfl rfl rfl) call12 rfl rfl rfl rfl (c12 _ _ _ hs12) ?_
  rintro _ w17 ⟨rfl, hs18⟩
  refine w_y rfl rfl rfl (zDc rfl rfl) rfl ?_
  refine w_p (zBb (v := .bool _) rfl rfl rfl rfl) rfl ?_
  refine w_p (zAe (v := .bool _) rfl rfl) rfl ?_
  refine zBi (fun h19 => ?_) (fun h19 => ?_)
  ·
   try simp only [zS] at h19
   refine zAi rfl rfl rfl ?_
   refine zAi rfl rfl rfl ?_
   refine zAi rfl rfl rfl ?_
   refine zAi rfl rfl rfl ?_
   refine zAi rfl rfl rfl ?_
   refine zAi rfl rfl rfl ?_
   refine w_p (zA0 (v := _) rfl rfl rfl rfl) rfl ?_
   refine zAf (zAd (hK8 _ _ ?_))
   refine zCg rfl rfl ?_
   refine zAg (fun K21 hK20 => ?_)
   refine zAb (w_p (zAc (v := _) rfl rfl) rfl ?_)
   refine zAf (zAd (hK20 _ _ ?_))
   refine zA2 (zAm (zA3 (l := [.tmp 2]) (vs := [_]) rfl ⟨⟨rfl, (rfl : _ = Value.int _ _)⟩, trivial⟩ ?_))
   exact ⟨congrArg (Value.int .i64) (by unfold farmErr out; simp only [Bool.or_eq_true, decide_eq_true_eq]; split <;> first | rfl | omega), hs18.tail⟩
  try simp only [zS] at h19
  refine w_y rfl rfl rfl (zAh (o := 3) (i := 3) underlying48 rfl sizeOf3 rfl rfl rfl) rfl ?_
  refine w_y rfl rfl rfl (zAk isAgg3 hs18 rfl rfl (zAj (i := 0) (vs := [_]) rfl rfl)) rfl ?_
  refine w_y rfl rfl rfl (zAh (o := 1) (i := 1) underlying48 rfl sizeOf3 rfl rfl rfl) rfl ?_
  refine w_y rfl rfl rfl (zAk isAgg3 hs18 rfl rfl (zAj (i := 0) (vs := [_]) rfl rfl)) rfl ?_
  refine zAt (zAn rfl rfl rfl) call12 rfl rfl rfl rfl (c12 _ _ _ hs18) ?_
  rintro _ w23 ⟨rfl, hs24⟩
  refine w_y rfl rfl rfl (zDc rfl rfl) rfl ?_
  refine w_p (zBb (v := .bool _) rfl rfl rfl rfl) rfl ?_
  refine zAf (zAd (hK8 _ _ ?_))
  refine zAz rfl rfl (fun h25 => ?_) (fun h25 => ?_)
  ·
   try simp only [zS] at h25
   refine zAg (fun K27 hK26 => ?_)
   refine zAb (w_p (zAc (v := _) rfl rfl) rfl ?_)
   refine zAf (zAd (hK26 _ _ ?_))
   refine zA2 (zAm (zA3 (l := [.tmp 2]) (vs := [_]) rfl ⟨⟨rfl, (rfl : _ = Value.int _ _)⟩, trivial⟩ ?_))
   exact ⟨congrArg (Value.int .i64) (by unfold farmErr out; simp only [Bool.or_eq_true, decide_eq_true_eq]; split <;> first | rfl | omega), hs24.tail⟩
  try simp only [zS] at h25
  refine zAx (zAd (hK6 _ _ ?_))
  refine zAg (fun K29 hK28 => ?_)
  refine zAb (w_p (zAh (o := 4) (i := 4) underlying48 rfl sizeOf28 rfl rfl rfl) rfl ?_)
  refine w_p (zA6 (vs := [_, _]) isAgg28 sizeOf28 hs24 rfl rfl (zAj (i := 0) (vs := [_, _]) rfl rfl)) rfl ?_
  refine zAt zAa call18 rfl rfl rfl rfl (c18 _ _ _ _ hs24) ?_
  rintro _ w31 ⟨rfl, hs32⟩
  refine w_p (zAc (v := .int _ _) rfl rfl) rfl ?_
  refine zAf (zAd (hK28 _ _ ?_))
  refine zA2 (zA3 (l := [.tmp 2]) (vs := [_]) rfl ⟨⟨rfl, (rfl : _ = Value.int _ _)⟩, trivial⟩ ?_)
  exact ⟨congrArg (Value.int .i64) (by unfold farmErr out; simp only [Bool.or_eq_true, decide_eq_true_eq]; split <;> first | rfl | omega), hs32.tail⟩

theorem c105 {w0 w : World} {F : List (Nat × Obj)} (f : Farm) (b1 b2 : Nat) (a : Option Addr) (c : Nat) (l : List Farm) (i : Nat) (hi : i < l.length) (h1 : Ats w0 F b1 0 [.slice a l.length c]) (h2 : Ats w0 F b2 0 [.int .i64 (i : Int)]) (ha : Sl w0 F a 6 (rows l)) (hs : St w0 w F) :
  Con Tryz.prog 105 [.agg f.cells.toArray, .pointer (some ⟨b1, 0, none⟩), .pointer (some ⟨b2, 0, none⟩)] w fun v w' => v = .bool (decide (f.name = l[i].name)) ∧ St w0 w' F := by
  refine zAw (n := 13) func105 rfl rfl (Nat.le_of_ble_eq_true rfl) ?_
  obtain ⟨bx, ox, rfl, hx⟩ := sl_farm ha hi
  refine zAg (fun K2 hK1 => ?_)
  refine zAb (zB3 (v := .agg #[.string _, .int _ _, .int _ _, .int _ _, .int _ _, .int _ _]) (cs := [_, _, _, _, _, _]) zAa rfl rfl rfl hs (fun b3 w4 hs5 => ?_))
  refine w_p (zAc (v := _) rfl rfl) rfl ?_
  refine zAf (zAd (hK1 _ _ ?_))
  refine zAg (fun K7 hK6 => ?_)
  refine zB7 [] [(0, 0), (1, 1), (2, 1), (3, 1), (4, 0), (5, 0), (6, 1), (7, 0), (8, 0)] zBu (by kernel_rfl) hs5 (fun w8 hs9 => ?_)
  refine zAp rfl zAa rfl (fun _ => (zAh (o := 0) (i := 0) underlying48 rfl sizeOf9 rfl rfl rfl)) ?_
  refine zBa rfl zAa rfl hs9 (fun _ hq => (zAk isAgg9 hq rfl rfl (zAj (i := 0) (vs := [_]) rfl rfl))) ?_
  refine zBa rfl zAa rfl hs9 (fun _ hq => (zAk isAgg29 hq.tail rfl rfl h1)) ?_
  refine zBa rfl zAa rfl hs9 (fun _ hq => (zAk isAgg3 hq.tail rfl rfl h2)) ?_
  refine zAp rfl zAa rfl (fun _ => (zA7 underlying29 sizeOf48 rfl rfl rfl rfl (i := _) rfl (by omega))) ?_
  refine zAp rfl zAa rfl (fun _ => (zAh (o := 0) (i := 0) underlying48 rfl sizeOf9 rfl rfl rfl)) ?_
  refine zBa rfl zAa rfl hs9 (fun _ hq => (zAk isAgg9 hq.tail rfl rfl (show Ats _ _ _ _ [_] from Ats.part hx 0 1))) ?_
  refine zAp rfl zAa rfl (fun _ => (y_strEq rfl rfl rfl rfl)) ?_
  refine zAp rfl zAa rfl (fun _ => (zAc (v := .bool _) rfl rfl)) ?_
  refine zB1 ?_
  refine zAd (hK6 _ _ ?_)
  refine zA2 (zA3 (l := [.tmp 4]) (vs := [_]) rfl ⟨⟨rfl, (rfl : _ = Value.bool _)⟩, trivial⟩ ?_)
  exact ⟨rfl, hs9.tail⟩

theorem c116 {w0 w : World} {F : List (Nat × Obj)} (a : Option Addr) (l : List Farm) (c : Nat) (hla : l.length ≤ 9223372036854775807) (ha : Sl w0 F a 6 (rows l)) {fk : FuncId} (hC : CF Tryz.prog fk) (first captured : Array Value) (p : Farm → Bool)
    (hp : ∀ x ∈ l, ∀ w, St w0 w F → Con Tryz.prog fk (first.toList ++ ([.agg x.cells.toArray] ++ captured.toList)) w fun v w' => v = .bool (p x) ∧ St w0 w' F) (hs : St w0 w F) :
  Con Tryz.prog 116 [.slice a l.length c, .func (.func fk) first captured] w fun v w' => (∃ z, v = .int .i64 z ∧ decide (0 ≤ z) = l.any p) ∧ St w0 w' F := by
  refine zAw (n := 19) func116 rfl rfl (Nat.le_of_ble_eq_true rfl) ?_
  refine zAg (fun K2 hK1 => ?_)
  refine zAb (w_p (zAc (v := _) rfl rfl) rfl ?_)
  refine zAf (zAd (hK1 _ _ ?_))
  refine zAg (fun K4 hK3 => ?_)
  refine zAg (fun K6 hK5 => ?_)
  refine zAb (w_p (zAe (v := .slice _ _ _) rfl rfl) rfl ?_)
  refine w_p (zBd underlying29 rfl rfl) rfl ?_
  refine w_p (zAe (v := _) rfl rfl) rfl ?_
  refine zAf (zAd (hK5 _ _ ?_))
  refine zAy ?_
  refine zBp [4, 5, 8, 9, 10, 11, 12, 13, 14, 15, 16, 17, 18] [8] (fun k vs w => ∃ i : Nat, vs = [.int .i64 i] ∧ i ≤ l.length ∧ k = l.length - i ∧ (l.take i).any p = false ∧ St w0 w F) (l.length) ?_ ?_
  ·
   exact ⟨0, rfl, by omega, by omega, by simp, hs⟩
  intro k vs μ w9 hI K8 hN7
  obtain ⟨i, rfl, hia, rfl, hpre, hs⟩ := hI
  refine zAg (fun K11 hK10 => ?_)
  refine zAb (w_p (zBt rfl rfl rfl rfl) rfl ?_)
  refine zAf (zAd (hK10 _ _ ?_))
  refine zAg (fun K13 hK12 => ?_)
  refine zAz rfl rfl (fun h14 => ?_) (fun h14 => ?_)
  ·
   try simp only [zS] at h14
   refine zAx (zAd (hK12 _ _ ?_))
   refine zAg (fun K16 hK15 => ?_)
   refine zAy ?_
   refine zAg (fun K18 hK17 => ?_)
   refine zAb (w_p (zAe (v := .int _ _) rfl rfl) rfl ?_)
   refine w_p (zAc (v := .int _ _) rfl rfl) rfl ?_
   refine zAf (zAd (hK17 _ _ ?_))
   refine zAg (fun K20 hK19 => ?_)
   have hi2 : i < l.length := by omega
   obtain ⟨bx, ox, rfl, hx⟩ := sl_farm ha hi2
   refine zAb (w_p (zAe (v := .func _ _ _) rfl rfl) rfl ?_)
   refine w_p (zAe (v := .slice _ _ _) rfl rfl) rfl ?_
   refine w_p (zAe (v := .int _ _) rfl rfl) rfl ?_
   refine w_p (zA7 underlying29 sizeOf48 rfl rfl rfl rfl (i := _) rfl (by omega)) rfl ?_
   refine w_p (zA6 (vs := [_, _, _, _, _, _]) isAgg48 sizeOf48 hs rfl rfl hx) rfl ?_
   refine zAt zAa hC rfl rfl rfl rfl (hp _ (List.getElem_mem hi2) _ hs) ?_
   rintro _ w22 ⟨rfl, hs23⟩
   refine zAf (zAd (hK19 _ _ ?_))
   refine zAz rfl rfl (fun h24 => ?_) (fun h24 => ?_)
   ·
    try simp only [zS] at h24
    refine zAg (fun K26 hK25 => ?_)
    refine zAb (w_p (zAe (v := .int _ _) rfl rfl) rfl ?_)
    refine w_p (zAc (v := .int _ _) rfl rfl) rfl ?_
    refine zAf (zAd (hK25 _ _ ?_))
    refine zA2 (zA1 (zAm (zAm (zA1 (zAm (zA3 (l := [.tmp 4]) (vs := [_]) rfl ⟨⟨rfl, (rfl : _ = Value.int _ _)⟩, trivial⟩ ?_))))))
    first
      | exact ⟨⟨-1, rfl, by have hil : i = l.length := (by omega); subst hil; rw [List.take_length] at hpre; rw [hpre]; rfl⟩, hs23⟩
      | exact ⟨⟨(i : Int), rfl, by rw [Bool.eq_iff_iff]; simp only [decide_eq_true_eq, List.any_eq_true]; exact ⟨fun _ => ⟨_, List.getElem_mem hi2, by assumption⟩, fun _ => by omega⟩⟩, hs23⟩
   try simp only [zS] at h24
   refine zAx (zAl (zAd (hK15 _ _ ?_)))
   refine zAb (w_p (zBf rfl rfl rfl rfl (by omega) (by omega)) rfl ?_)
   refine w_p (zAe (v := .int _ _) rfl rfl) rfl ?_
   refine zAf (zAd (hN7 _ _ (Nx.intro (l.length - (i + 1)) (by omega) (by repeat (first | exact zAv | refine zAu rfl ?_ | refine zAs rfl ?_ _ | refine zAr rfl ?_)) ?_)))
   exact ⟨i + 1, rfl, by omega, rfl, any_takeF hpre (by omega) (by assumption), hs23⟩
  try simp only [zS] at h14
  refine zBl (zAo (zAo (zA4 (zAd (hK3 _ _ ?_)))))
  refine zAg (fun K28 hK27 => ?_)
  refine zAb (w_p (zAc (v := _) rfl rfl) rfl ?_)
  refine zAf (zAd (hK27 _ _ ?_))
  refine zA2 (zA3 (l := [.tmp 4]) (vs := [_]) rfl ⟨⟨rfl, (rfl : _ = Value.int _ _)⟩, trivial⟩ ?_)
  first
    | exact ⟨⟨-1, rfl, by have hil : i = l.length := (by omega); subst hil; rw [List.take_length] at hpre; rw [hpre]; rfl⟩, hs⟩
    | exact ⟨⟨(i : Int), rfl, by rw [Bool.eq_iff_iff]; simp only [decide_eq_true_eq, List.any_eq_true]; exact ⟨fun _ => ⟨_, List.getElem_mem hi2, by assumption⟩, fun _ => by omega⟩⟩, hs⟩

theorem c104 {w0 w : World} {F : List (Nat × Obj)} (a : Option Addr) (l : List Farm) (c : Nat) (hla : l.length ≤ 9223372036854775807) (ha : Sl w0 F a 6 (rows l)) {fk : FuncId} (hC : CF Tryz.prog fk) (first captured : Array Value) (p : Farm → Bool)
    (hp : ∀ x ∈ l, ∀ w, St w0 w F → Con Tryz.prog fk (first.toList ++ ([.agg x.cells.toArray] ++ captured.toList)) w fun v w' => v = .bool (p x) ∧ St w0 w' F) (hs : St w0 w F) :
  Con Tryz.prog 104 [.slice a l.length c, .func (.func fk) first captured] w fun v w' => v = .bool (l.any p) ∧ St w0 w' F := by
  refine zAw (n := 9) func104 rfl rfl (Nat.le_of_ble_eq_true rfl) ?_
  refine zAg (fun K2 hK1 => ?_)
  refine zAb (w_p (zAc (v := _) rfl rfl) rfl ?_)
  refine zAf (zAd (hK1 _ _ ?_))
  refine zAg (fun K4 hK3 => ?_)
  refine zAb (w_p (zAe (v := .slice _ _ _) rfl rfl) rfl ?_)
  refine w_p (zAe (v := .func _ _ _) rfl rfl) rfl ?_
  refine zAt zAa call116 rfl rfl rfl rfl (c116 _ _ _ hla ha hC _ _ p hp hs) ?_
  rintro _ w6 ⟨⟨z, rfl, hz⟩, hs7⟩
  refine w_p (y_geq rfl rfl rfl rfl) rfl ?_
  refine w_p (zAc (v := .bool _) rfl rfl) rfl ?_
  refine zAf (zAd (hK3 _ _ ?_))
  refine zA2 (zA3 (l := [.tmp 4]) (vs := [_]) rfl ⟨⟨rfl, (rfl : _ = Value.bool _)⟩, trivial⟩ ?_)
  exact ⟨congrArg Value.bool hz, hs7⟩

theorem c102 {w0 w : World} {F : List (Nat × Obj)} (a : Option Addr) (c : Nat) (l : List Farm) (hl3 : l.length ≤ 9223372036854775807) (hc : l.length ≤ c) (ha : Sl w0 F a 6 (rows l)) (i : Nat) (hi : i < l.length) (hnm : l[i].name.size ≤ 9223372036854775807) (hs : St w0 w F) :
  Con Tryz.prog 102 [.slice a l.length c, .int .i64 (i : Int)] w fun v w' => v = .bool (flawIs (names (l.take i)) l[i] 0) ∧ St w0 w' F := by
  refine zAw (n := 12) func102 rfl rfl (Nat.le_of_ble_eq_true rfl) ?_
  obtain ⟨bx, ox, rfl, hx⟩ := sl_farm ha hi
  refine zAg (fun K2 hK1 => ?_)
  refine zAb (w_p (zAc (v := _) rfl rfl) rfl ?_)
  refine zAf (zAd (hK1 _ _ ?_))
  refine zAg (fun K4 hK3 => ?_)
  refine zAb (w_p (zAe (v := .slice _ _ _) rfl rfl) rfl ?_)
  refine w_p (zAe (v := .int _ _) rfl rfl) rfl ?_
  refine w_p (zA7 underlying29 sizeOf48 rfl rfl rfl rfl (i := _) rfl (by omega)) rfl ?_
  refine w_p (zAh (o := 0) (i := 0) underlying48 rfl sizeOf9 rfl rfl rfl) rfl ?_
  refine w_p (zAk isAgg9 hs rfl rfl (show Ats _ _ _ _ [_] from Ats.part hx 0 1)) rfl ?_
  refine zAt zAa call32 rfl rfl rfl rfl (c32 _ (by omega) hs) ?_
  rintro _ w6 ⟨rfl, hs7⟩
  refine w_p (zDc rfl rfl) rfl ?_
  refine w_p (zAc (v := .bool _) rfl rfl) rfl ?_
  refine zAf (zAd (hK3 _ _ ?_))
  refine zA2 (zA3 (l := [.tmp 4]) (vs := [_]) rfl ⟨⟨rfl, (rfl : _ = Value.bool _)⟩, trivial⟩ ?_)
  exact ⟨rfl, hs7⟩

theorem sl_take {w0 : World} {F : List (Nat × Obj)} {a : Option Addr} {l : List Farm} {i c : Nat} (h : Sl w0 F a 6 (rows l)) (hi : i ≤ l.length) (hc : l.length ≤ c) : Sl w0 F (if c = 0 then a else a.map (·.add (0 * 6))) 6 (rows (l.take i)) := by
  have := h.cut (l' := 0) (h' := i) (c := c) (by omega) (by simpa [rows] using hi) (by simpa [rows] using hc)
  simpa [rows, List.map_take] using this
theorem has_names (l : List Farm) (s : ByteArray) : (l.any fun x => decide (x.name = s)) = has (names l) s := by
  simp [has, names, List.any_map, Function.comp_def]
theorem c103 {w0 w : World} {F : List (Nat × Obj)} (a : Option Addr) (c : Nat) (l : List Farm) (hl3 : l.length ≤ 9223372036854775807) (hc : l.length ≤ c) (ha : Sl w0 F a 6 (rows l)) (i : Nat) (hi : i < l.length) (hs : St w0 w F) :
  Con Tryz.prog 103 [.slice a l.length c, .int .i64 (i : Int)] w fun v w' => v = .bool (flawIs (names (l.take i)) l[i] 1) ∧ St w0 w' F := by
  refine zAw (n := 10) func103 rfl rfl (Nat.le_of_ble_eq_true rfl) ?_
  refine zAg (fun K2 hK1 => ?_)
  refine zAb (zB3 (v := .slice _ _ _) (cs := [_]) zAa rfl rfl rfl hs (fun b3 w4 hs5 => ?_))
  refine zB3 (v := .int _ _) (cs := [_]) zAa rfl rfl rfl hs5 (fun b6 w7 hs8 => ?_)
  refine w_p (zAc (v := _) rfl rfl) rfl ?_
  refine zAf (zAd (hK1 _ _ ?_))
  refine zAg (fun K10 hK9 => ?_)
  refine zAb (w_p (zAk isAgg29 hs8 rfl rfl (zAj (i := 1) (vs := [_]) rfl rfl)) rfl ?_)
  refine w_p (zAk isAgg3 hs8 rfl rfl (zAj (i := 0) (vs := [_]) rfl rfl)) rfl ?_
  refine w_p (y_sliceS (l' := 0) (h' := i) underlying29 sizeOf48 rfl rfl rfl ⟨rfl, _, _, rfl, rfl⟩ (by omega) (by omega)) rfl ?_
  refine w_p (zB9 (fv := []) (cv := [_, _]) rfl rfl rfl rfl) rfl ?_
  refine zAt zAa call104 rfl rfl rfl rfl ((show Con Tryz.prog 104 [.slice (if c = 0 then a else a.map (·.add (0 * 6))) (i - 0) (c - 0), _] _ _ from by rw [Nat.sub_zero, show (i = (l.take i).length) from by rw [List.length_take]; omega]; exact c104 _ (l.take i) _ (by rw [List.length_take]; omega) (sl_take ha.cons.cons (by omega) hc) call105 _ _ (fun x => decide (x.name = l[i].name)) (fun x _ w hs => c105 _ _ _ _ _ _ _ hi (zAj (i := 1) (vs := [_]) rfl rfl) (zAj (i := 0) (vs := [_]) rfl rfl) ha.cons.cons hs) hs8)) ?_
  rintro _ w12 ⟨rfl, hs13⟩
  refine w_p (zAc (v := .bool _) rfl rfl) rfl ?_
  refine zAf (zAd (hK9 _ _ ?_))
  refine zA2 (zA3 (l := [.tmp 4]) (vs := [_]) rfl ⟨⟨rfl, (rfl : _ = Value.bool _)⟩, trivial⟩ ?_)
  exact ⟨congrArg Value.bool (has_names _ _), hs13.tail.tail⟩

theorem c106 {w0 w : World} {F : List (Nat × Obj)} (a : Option Addr) (c : Nat) (l : List Farm) (hl3 : l.length ≤ 9223372036854775807) (hc : l.length ≤ c) (ha : Sl w0 F a 6 (rows l)) (i : Nat) (hi : i < l.length) (hs : St w0 w F) :
  Con Tryz.prog 106 [.slice a l.length c, .int .i64 (i : Int)] w fun v w' => v = .bool (flawIs (names (l.take i)) l[i] 2) ∧ St w0 w' F := by
  refine zAw (n := 38) func106 rfl rfl (Nat.le_of_ble_eq_true rfl) ?_
  obtain ⟨bx, ox, rfl, hx⟩ := sl_farm ha hi
  refine zAg (fun K2 hK1 => ?_)
  refine zAb (w_p (zAc (v := _) rfl rfl) rfl ?_)
  refine zAf (zAd (hK1 _ _ ?_))
  refine zAg (fun K4 hK3 => ?_)
  refine zAb (w_p (zAe (v := .slice _ _ _) rfl rfl) rfl ?_)
  refine w_p (zAe (v := .int _ _) rfl rfl) rfl ?_
  refine w_p (zA7 underlying29 sizeOf48 rfl rfl rfl rfl (i := _) rfl (by omega)) rfl ?_
  refine w_p (zA6 (vs := [_, _, _, _, _, _]) isAgg48 sizeOf48 hs rfl rfl hx) rfl ?_
  refine zA9 (cs := [_, _, _, _, _, _]) zAa zeroValue48 rfl hs (fun b5 w6 hs7 => ?_)
  refine zA5 (i := 0) (v := .agg #[.string _, .int _ _, .int _ _, .int _ _, .int _ _, .int _ _]) (vs := [_, _, _, _, _, _]) zAa sizeOf48 rfl rfl rfl rfl rfl (by simp [Value.oneCell']) hs7 rfl (Nat.le_of_ble_eq_true rfl) (fun w8 hs9 => ?_)
  refine zAf (zAd (hK3 _ _ ?_))
  refine zAg (fun K11 hK10 => ?_)
  refine zAb (w_p (zAh (o := 1) (i := 1) underlying48 rfl sizeOf3 rfl rfl rfl) rfl ?_)
  refine w_p (zAk isAgg3 hs9 rfl rfl (zAj (i := 0) (vs := [_]) rfl rfl)) rfl ?_
  refine zBh (ps := [(0, _)]) (pv := [(0, .int _ _)]) (cs := [_]) zAa rfl rfl (fun w => Try_CC_fb0 _ w) hs9 (fun b12 w13 hs14 => ?_)
  refine zAt zAa call73 rfl rfl rfl rfl (c73 _ _ _ [_] _ (by simp) (zBr (i := 0) (rows := [[_]]) rfl (by simp) rfl) hs14) ?_
  rintro _ w16 ⟨rfl, hs17⟩
  refine w_p (zAe (v := .bool _) rfl rfl) rfl ?_
  refine zBi (fun h18 => ?_) (fun h18 => ?_)
  ·
   try simp only [zS] at h18
   refine zAi rfl rfl rfl ?_
   refine zAi rfl rfl rfl ?_
   refine zAi rfl rfl rfl ?_
   refine zAi rfl rfl rfl ?_
   refine w_p (zA0 (v := _) rfl rfl rfl rfl) rfl ?_
   refine w_p (zAe (v := .bool _) rfl rfl) rfl ?_
   refine zAi rfl rfl rfl ?_
   refine zAi rfl rfl rfl ?_
   refine zAi rfl rfl rfl ?_
   refine zAi rfl rfl rfl ?_
   refine zAi rfl rfl rfl ?_
   refine zAi rfl rfl rfl ?_
   refine w_p (zA0 (v := _) rfl rfl rfl rfl) rfl ?_
   refine w_p (zAe (v := .bool _) rfl rfl) rfl ?_
   refine zAi rfl rfl rfl ?_
   refine zAi rfl rfl rfl ?_
   refine zAi rfl rfl rfl ?_
   refine zAi rfl rfl rfl ?_
   refine zAi rfl rfl rfl ?_
   refine zAi rfl rfl rfl ?_
   refine zAi rfl rfl rfl ?_
   refine zAi rfl rfl rfl ?_
   refine w_p (zA0 (v := _) rfl rfl rfl rfl) rfl ?_
   refine w_p (zAc (v := .bool _) rfl rfl) rfl ?_
   refine zAf (zAd (hK10 _ _ ?_))
   refine zA2 (zA3 (l := [.tmp 4]) (vs := [_]) rfl ⟨⟨rfl, (rfl : _ = Value.bool _)⟩, trivial⟩ ?_)
   try simp only [List.any_cons, List.any_nil, Bool.or_false, Bool.or_eq_false_iff] at h18
   exact ⟨congrArg Value.bool (by simp [flawIs, h18]), hs17.tail.tail⟩
  try simp only [zS] at h18
  refine w_y rfl rfl rfl (zAh (o := 2) (i := 2) underlying48 rfl sizeOf3 rfl rfl rfl) rfl ?_
  refine w_y rfl rfl rfl (zAk isAgg3 hs17 rfl rfl (zAj (i := 1) (vs := [_]) rfl rfl)) rfl ?_
  refine zBh (ps := [(0, _)]) (pv := [(0, .int _ _)]) (cs := [_]) (zAn rfl rfl rfl) rfl rfl (fun w => Try_CC_fb0 _ w) hs17 (fun b19 w20 hs21 => ?_)
  refine zAt (zAn rfl rfl rfl) call73 rfl rfl rfl rfl (c73 _ _ _ [_] _ (by simp) (zBr (i := 0) (rows := [[_]]) rfl (by simp) rfl) hs21) ?_
  rintro _ w23 ⟨rfl, hs24⟩
  refine w_p (zBb (v := .bool _) rfl rfl rfl rfl) rfl ?_
  refine w_p (zAe (v := .bool _) rfl rfl) rfl ?_
  refine zBi (fun h25 => ?_) (fun h25 => ?_)
  ·
   try simp only [zS] at h25
   refine zAi rfl rfl rfl ?_
   refine zAi rfl rfl rfl ?_
   refine zAi rfl rfl rfl ?_
   refine zAi rfl rfl rfl ?_
   refine zAi rfl rfl rfl ?_
   refine zAi rfl rfl rfl ?_
   refine w_p (zA0 (v := _) rfl rfl rfl rfl) rfl ?_
   refine w_p (zAe (v := .bool _) rfl rfl) rfl ?_
   refine zAi rfl rfl rfl ?_
   refine zAi rfl rfl rfl ?_
   refine zAi rfl rfl rfl ?_
   refine zAi rfl rfl rfl ?_
   refine zAi rfl rfl rfl ?_
   refine zAi rfl rfl rfl ?_
   refine zAi rfl rfl rfl ?_
   refine zAi rfl rfl rfl ?_
   refine w_p (zA0 (v := _) rfl rfl rfl rfl) rfl ?_
   refine w_p (zAc (v := .bool _) rfl rfl) rfl ?_
   refine zAf (zAd (hK10 _ _ ?_))
   refine zA2 (zA3 (l := [.tmp 4]) (vs := [_]) rfl ⟨⟨rfl, (rfl : _ = Value.bool _)⟩, trivial⟩ ?_)
   try simp only [List.any_cons, List.any_nil, Bool.or_false, Bool.or_eq_false_iff] at h18 h25
   exact ⟨congrArg Value.bool (by simp [flawIs, h18, h25]), hs24.tail.tail.tail⟩
  try simp only [zS] at h25
  refine w_y rfl rfl rfl (zAh (o := 1) (i := 1) underlying48 rfl sizeOf3 rfl rfl rfl) rfl ?_
  refine w_y rfl rfl rfl (zAk isAgg3 hs24 rfl rfl (zAj (i := 2) (vs := [_]) rfl rfl)) rfl ?_
  refine w_y rfl rfl rfl (zAh (o := 3) (i := 3) underlying48 rfl sizeOf3 rfl rfl rfl) rfl ?_
  refine w_y rfl rfl rfl (zAk isAgg3 hs24 rfl rfl (zAj (i := 2) (vs := [_]) rfl rfl)) rfl ?_
  refine zBh (ps := [(0, _)]) (pv := [(0, .int _ _)]) (cs := [_]) (zAn rfl rfl rfl) rfl rfl (fun w => Try_CC_fb0 _ w) hs24 (fun b26 w27 hs28 => ?_)
  refine zAt (zAn rfl rfl rfl) call73 rfl rfl rfl rfl (c73 _ _ _ [_] _ (by simp) (zBr (i := 0) (rows := [[_]]) rfl (by simp) rfl) hs28) ?_
  rintro _ w30 ⟨rfl, hs31⟩
  refine w_p (zBb (v := .bool _) rfl rfl rfl rfl) rfl ?_
  refine w_p (zAe (v := .bool _) rfl rfl) rfl ?_
  refine zBi (fun h32 => ?_) (fun h32 => ?_)
  ·
   try simp only [zS] at h32
   refine zAi rfl rfl rfl ?_
   refine zAi rfl rfl rfl ?_
   refine zAi rfl rfl rfl ?_
   refine zAi rfl rfl rfl ?_
   refine zAi rfl rfl rfl ?_
   refine zAi rfl rfl rfl ?_
   refine zAi rfl rfl rfl ?_
   refine zAi rfl rfl rfl ?_
   refine w_p (zA0 (v := _) rfl rfl rfl rfl) rfl ?_
   refine w_p (zAc (v := .bool _) rfl rfl) rfl ?_
   refine zAf (zAd (hK10 _ _ ?_))
   refine zA2 (zA3 (l := [.tmp 4]) (vs := [_]) rfl ⟨⟨rfl, (rfl : _ = Value.bool _)⟩, trivial⟩ ?_)
   try simp only [List.any_cons, List.any_nil, Bool.or_false, Bool.or_eq_false_iff] at h18 h25 h32
   exact ⟨congrArg Value.bool (by simp [flawIs, h18, h25, h32]), hs31.tail.tail.tail.tail⟩
  try simp only [zS] at h32
  refine w_y rfl rfl rfl (zAh (o := 4) (i := 4) underlying48 rfl sizeOf28 rfl rfl rfl) rfl ?_
  refine w_y rfl rfl rfl (zAh (o := 0) (i := 0) underlying28 rfl sizeOf3 rfl rfl rfl) rfl ?_
  refine w_y rfl rfl rfl (zAk isAgg3 hs31 rfl rfl (zAj (i := 3) (vs := [_]) rfl rfl)) rfl ?_
  refine w_y rfl rfl rfl (zAh (o := 4) (i := 4) underlying48 rfl sizeOf28 rfl rfl rfl) rfl ?_
  refine w_y rfl rfl rfl (zAh (o := 1) (i := 1) underlying28 rfl sizeOf3 rfl rfl rfl) rfl ?_
  refine w_y rfl rfl rfl (zAk isAgg3 hs31 rfl rfl (zAj (i := 3) (vs := [_]) rfl rfl)) rfl ?_
  refine zBh (ps := [(0, _), (1, _)]) (pv := [(0, .int _ _), (1, .int _ _)]) (cs := [_, _]) (zAn rfl rfl rfl) rfl rfl (fun w => Try_CC_fb1 _ _ w) hs31 (fun b33 w34 hs35 => ?_)
  refine zAt (zAn rfl rfl rfl) call73 rfl rfl rfl rfl (c73 _ _ _ [_, _] _ (by simp) (zBr (i := 0) (rows := [[_], [_]]) rfl (by simp) rfl) hs35) ?_
  rintro _ w37 ⟨rfl, hs38⟩
  refine w_p (zBb (v := .bool _) rfl rfl rfl rfl) rfl ?_
  refine w_p (zAc (v := .bool _) rfl rfl) rfl ?_
  refine zAf (zAd (hK10 _ _ ?_))
  refine zA2 (zA3 (l := [.tmp 4]) (vs := [_]) rfl ⟨⟨rfl, (rfl : _ = Value.bool _)⟩, trivial⟩ ?_)
  try simp only [List.any_cons, List.any_nil, Bool.or_false, Bool.or_eq_false_iff] at h18 h25 h32
  exact ⟨congrArg Value.bool (by simp [flawIs, h18, h25, h32]), hs38.tail.tail.tail.tail.tail⟩

theorem c107 {w0 w : World} {F : List (Nat × Obj)} (a : Option Addr) (c : Nat) (l : List Farm) (hl3 : l.length ≤ 9223372036854775807) (hc : l.length ≤ c) (ha : Sl w0 F a 6 (rows l)) (i : Nat) (hi : i < l.length) (hs : St w0 w F) :
  Con Tryz.prog 107 [.slice a l.length c, .int .i64 (i : Int)] w fun v w' => v = .bool (flawIs (names (l.take i)) l[i] 3) ∧ St w0 w' F := by
  refine zAw (n := 18) func107 rfl rfl (Nat.le_of_ble_eq_true rfl) ?_
  obtain ⟨bx, ox, rfl, hx⟩ := sl_farm ha hi
  refine zAg (fun K2 hK1 => ?_)
  refine zAb (w_p (zAc (v := _) rfl rfl) rfl ?_)
  refine zAf (zAd (hK1 _ _ ?_))
  refine zAg (fun K4 hK3 => ?_)
  refine zB7 [] [(0, 0), (1, 0), (2, 0), (3, 0), (4, 0), (5, 1), (6, 0), (7, 0), (8, 0), (9, 0), (10, 0), (11, 1), (12, 0), (13, 0)] zBu (by kernel_rfl) hs (fun w5 hs6 => ?_)
  refine zAp rfl zAa rfl (fun _ => (zAe (v := .slice _ _ _) rfl rfl)) ?_
  refine zAp rfl zAa rfl (fun _ => (zAe (v := .int _ _) rfl rfl)) ?_
  refine zAp rfl zAa rfl (fun _ => (zA7 underlying29 sizeOf48 rfl rfl rfl rfl (i := _) rfl (by omega))) ?_
  refine zAp rfl zAa rfl (fun _ => (zAh (o := 4) (i := 4) underlying48 rfl sizeOf28 rfl rfl rfl)) ?_
  refine zAp rfl zAa rfl (fun _ => (zAh (o := 0) (i := 0) underlying28 rfl sizeOf3 rfl rfl rfl)) ?_
  refine zBa rfl zAa rfl hs6 (fun _ hq => (zAk isAgg3 hq rfl rfl (show Ats _ _ _ _ [_] from Ats.part hx 4 1))) ?_
  refine zAp rfl zAa rfl (fun _ => (zAe (v := .slice _ _ _) rfl rfl)) ?_
  refine zAp rfl zAa rfl (fun _ => (zAe (v := .int _ _) rfl rfl)) ?_
  refine zAp rfl zAa rfl (fun _ => (zA7 underlying29 sizeOf48 rfl rfl rfl rfl (i := _) rfl (by omega))) ?_
  refine zAp rfl zAa rfl (fun _ => (zAh (o := 4) (i := 4) underlying48 rfl sizeOf28 rfl rfl rfl)) ?_
  refine zAp rfl zAa rfl (fun _ => (zAh (o := 1) (i := 1) underlying28 rfl sizeOf3 rfl rfl rfl)) ?_
  refine zBa rfl zAa rfl hs6 (fun _ hq => (zAk isAgg3 hq rfl rfl (show Ats _ _ _ _ [_] from Ats.part hx 5 1))) ?_
  refine zAp rfl zAa rfl (fun _ => (y_gtr rfl rfl rfl rfl)) ?_
  refine zAp rfl zAa rfl (fun _ => (zAc (v := .bool _) rfl rfl)) ?_
  refine zB1 ?_
  refine zAd (hK3 _ _ ?_)
  refine zA2 (zA3 (l := [.tmp 4]) (vs := [_]) rfl ⟨⟨rfl, (rfl : _ = Value.bool _)⟩, trivial⟩ ?_)
  exact ⟨rfl, hs6⟩

def flawK : Nat → Nat
  | 0 => 102
  | 1 => 103
  | 2 => 106
  | _ => 107
def flawCells : List Value := [.int .i64 6, .func (.func 102) #[] #[], .int .i64 5, .func (.func 103) #[] #[], .int .i64 7, .func (.func 106) #[] #[], .int .i64 2, .func (.func 107) #[] #[]]
theorem flaw_at {w0 : World} {L : List (Nat × Obj)} {b i j : Nat} (hi : L[i]? = some (b, blk 148 flawCells)) (hj : j < 4) : Ats w0 L b (0 + j * 2) [.int .i64 (flawE j), .func (.func (flawK j)) #[] #[]] := by
  match j, hj with
  | 0, _ => exact zAj hi rfl
  | 1, _ => exact zAj hi rfl
  | 2, _ => exact zAj hi rfl
  | 3, _ => exact zAj hi rfl
theorem flaw_con {w0 w : World} {F : List (Nat × Obj)} (a : Option Addr) (c : Nat) (l : List Farm) (hl3 : l.length ≤ 9223372036854775807) (hc : l.length ≤ c) (ha : Sl w0 F a 6 (rows l)) (i : Nat) (hi : i < l.length) (hnm : l[i].name.size ≤ 9223372036854775807) (j : Nat) (hj : j < 4) (hs : St w0 w F) :
    FCon Tryz.prog (.func (.func (flawK j)) #[] #[]) [.slice a l.length c, .int .i64 (i : Int)] w fun v w' => v = .bool (flawIs (names (l.take i)) l[i] j) ∧ St w0 w' F := by
  match j, hj with
  | 0, _ => exact zC4 call102 (c102 a c l hl3 hc ha i hi hnm hs)
  | 1, _ => exact zC4 call103 (c103 a c l hl3 hc ha i hi hs)
  | 2, _ => exact zC4 call106 (c106 a c l hl3 hc ha i hi hs)
  | 3, _ => exact zC4 call107 (c107 a c l hl3 hc ha i hi hs)
theorem c85 {w0 w : World} {F : List (Nat × Obj)}  (hs : St w0 w F) :
  Con Tryz.prog 85 [] w fun v w' => ∃ b, v = .slice (some ⟨b, 0, none⟩) 4 4 ∧ St w0 w' ((b, blk 148 flawCells) :: F) := by
  refine zAw (n := 6) func85 rfl rfl (Nat.le_of_ble_eq_true rfl) ?_
  refine zAg (fun K2 hK1 => ?_)
  refine zAb (w_p (zAc (v := _) rfl rfl) rfl ?_)
  refine zAf (zAd (hK1 _ _ ?_))
  refine zAg (fun K4 hK3 => ?_)
  refine zAb (w_p (zBs (ps := [(0, _), (1, _)]) (pv := [(0, .int _ _), (1, .func _ _ _)]) rfl rfl (fun w => Try_CC_fb2 _ _ _ _ w)) rfl ?_)
  refine w_p (zBs (ps := [(0, _), (1, _)]) (pv := [(0, .int _ _), (1, .func _ _ _)]) rfl rfl (fun w => Try_CC_fb2 _ _ _ _ w)) rfl ?_
  refine w_p (zBs (ps := [(0, _), (1, _)]) (pv := [(0, .int _ _), (1, .func _ _ _)]) rfl rfl (fun w => Try_CC_fb2 _ _ _ _ w)) rfl ?_
  refine w_p (zBs (ps := [(0, _), (1, _)]) (pv := [(0, .int _ _), (1, .func _ _ _)]) rfl rfl (fun w => Try_CC_fb2 _ _ _ _ w)) rfl ?_
  refine zBh (ps := [(0, _), (1, _), (2, _), (3, _)]) (pv := [(0, .agg #[.int _ _, .func _ _ _]), (1, .agg #[.int _ _, .func _ _ _]), (2, .agg #[.int _ _, .func _ _ _]), (3, .agg #[.int _ _, .func _ _ _])]) (cs := [_, _, _, _, _, _, _, _]) zAa rfl rfl (fun w => Try_CC_fb3 _ _ _ _ _ _ _ _ _ _ _ _ _ _ _ _ w) hs (fun b5 w6 hs7 => ?_)
  refine w_p (zAc (v := .slice _ _ _) rfl rfl) rfl ?_
  refine zAf (zAd (hK3 _ _ ?_))
  refine zA2 (zA3 (l := [.tmp 0]) (vs := [_]) rfl ⟨⟨rfl, show _ = (.slice _ _ _ : Value) from rfl⟩, trivial⟩ ?_)
  exact ⟨_, rfl, hs7⟩

theorem tup3 {x : Int × Int × Int} {a b c : Int} (h : x = (a, b, c)) : Value.tuple #[.int .i64 a, .int .i64 b, .int .i64 c] = .tuple #[.int .i64 x.1, .int .i64 x.2.1, .int .i64 x.2.2] := by subst h; rfl
theorem c48 {w0 w : World} {F : List (Nat × Obj)} (p : Port) (a : Option Addr) (c : Nat) (hl3 : p.farms.length ≤ 9223372036854775807) (hc : p.farms.length ≤ c) (ha : Sl w0 F a 6 (rows p.farms)) (hnm : ∀ f ∈ p.farms, f.name.size ≤ 9223372036854775807) (hs : St w0 w F) :
  Con Tryz.prog 48 [.agg (p.cells a c).toArray] w fun v w' => v = .tuple #[.int .i64 (check p).1, .int .i64 (check p).2.1, .int .i64 (check p).2.2] ∧ St w0 w' F := by
  refine zAw (n := 59) func48 rfl rfl (Nat.le_of_ble_eq_true rfl) ?_
  refine zAg (fun K2 hK1 => ?_)
  refine zAb (zB3 (v := .agg #[.int _ _, .int _ _, .int _ _, .slice _ _ _]) (cs := [_, _, _, _]) zAa rfl rfl rfl hs (fun b3 w4 hs5 => ?_))
  refine w_p (zAc (v := _) rfl rfl) rfl ?_
  refine w_p (zAc (v := _) rfl rfl) rfl ?_
  refine w_p (zAc (v := _) rfl rfl) rfl ?_
  refine zAf (zAd (hK1 _ _ ?_))
  refine zAg (fun K7 hK6 => ?_)
  refine zAy ?_
  refine zAg (fun K9 hK8 => ?_)
  refine zAb (w_p (zAh (o := 0) (i := 0) underlying31 rfl sizeOf3 rfl rfl rfl) rfl ?_)
  refine w_p (zAk isAgg3 hs5 rfl rfl (zAj (i := 0) (vs := [_]) rfl rfl)) rfl ?_
  refine zBh (ps := [(0, _)]) (pv := [(0, .int _ _)]) (cs := [_]) zAa rfl rfl (fun w => Try_CC_fb0 _ w) hs5 (fun b10 w11 hs12 => ?_)
  refine zAt zAa call73 rfl rfl rfl rfl (c73 _ _ _ [_] _ (by simp) (zBr (i := 0) (rows := [[_]]) rfl (by simp) rfl) hs12) ?_
  rintro _ w14 ⟨rfl, hs15⟩
  refine w_p (zAe (v := .bool _) rfl rfl) rfl ?_
  refine zBi (fun h16 => ?_) (fun h16 => ?_)
  ·
   try simp only [zS] at h16
   refine zAi rfl rfl rfl ?_
   refine zAi rfl rfl rfl ?_
   refine zAi rfl rfl rfl ?_
   refine zAi rfl rfl rfl ?_
   refine zAi rfl rfl rfl ?_
   refine zAi rfl rfl rfl ?_
   refine zAi rfl rfl rfl ?_
   refine zAi rfl rfl rfl ?_
   refine w_p (zA0 (v := _) rfl rfl rfl rfl) rfl ?_
   refine w_p (zAc (v := .bool _) rfl rfl) rfl ?_
   refine zAf (zAd (hK8 _ _ ?_))
   refine zCg rfl rfl ?_
   refine zAg (fun K18 hK17 => ?_)
   refine zAb (w_p (zAc (v := _) rfl rfl) rfl ?_)
   refine w_p (zAc (v := _) rfl rfl) rfl ?_
   refine w_p (zAc (v := _) rfl rfl) rfl ?_
   refine zAf (zAd (hK17 _ _ ?_))
   refine zA2 (zA1 (zAm (zA3 (l := [.tmp 2, .tmp 3, .tmp 4]) (vs := [_, _, _]) rfl ⟨⟨rfl, (rfl : _ = Value.int _ _)⟩, ⟨rfl, (rfl : _ = Value.int _ _)⟩, ⟨rfl, (rfl : _ = Value.int _ _)⟩, trivial⟩ ?_)))
   try simp only [List.any_cons, List.any_nil, Bool.or_false, Bool.or_eq_false_iff] at h16
   first
     | exact ⟨tup3 (hinv.trans ((zBm hi2 (by rw [zDd _ _ j hj2 (by assumption) hfl]; match j, hj2 with | 0, _ => decide | 1, _ => decide | 2, _ => decide | 3, _ => decide)).trans (by rw [zDd _ _ j hj2 (by assumption) hfl]))), hs15.tail.tail⟩
     | exact ⟨tup3 (hinv.trans (zCf (by omega) _)), hs15.tail.tail⟩
     | (refine ⟨tup3 ?_, hs15.tail.tail⟩; unfold check; rw [if_pos (by simp [h16])]; done)
     | (refine ⟨tup3 ?_, hs15.tail.tail⟩; unfold check; rw [if_neg (by simp [h16]), if_pos (by omega)]; done)
     | (refine ⟨tup3 ?_, hs15.tail.tail⟩; unfold check; rw [if_neg (by simp [h16]), if_neg (by omega), if_pos (by omega)]; done)
  try simp only [zS] at h16
  refine w_y rfl rfl rfl (zAh (o := 1) (i := 1) underlying31 rfl sizeOf28 rfl rfl rfl) rfl ?_
  refine w_y rfl rfl rfl (zAh (o := 0) (i := 0) underlying28 rfl sizeOf3 rfl rfl rfl) rfl ?_
  refine w_y rfl rfl rfl (zAk isAgg3 hs15 rfl rfl (zAj (i := 1) (vs := [_]) rfl rfl)) rfl ?_
  refine w_y rfl rfl rfl (zAh (o := 1) (i := 1) underlying31 rfl sizeOf28 rfl rfl rfl) rfl ?_
  refine w_y rfl rfl rfl (zAh (o := 1) (i := 1) underlying28 rfl sizeOf3 rfl rfl rfl) rfl ?_
  refine w_y rfl rfl rfl (zAk isAgg3 hs15 rfl rfl (zAj (i := 1) (vs := [_]) rfl rfl)) rfl ?_
  refine zBh (ps := [(0, _), (1, _)]) (pv := [(0, .int _ _), (1, .int _ _)]) (cs := [_, _]) (zAn rfl rfl rfl) rfl rfl (fun w => Try_CC_fb1 _ _ w) hs15 (fun b19 w20 hs21 => ?_)
  refine zAt (zAn rfl rfl rfl) call73 rfl rfl rfl rfl (c73 _ _ _ [_, _] _ (by simp) (zBr (i := 0) (rows := [[_], [_]]) rfl (by simp) rfl) hs21) ?_
  rintro _ w23 ⟨rfl, hs24⟩
  refine w_p (zBb (v := .bool _) rfl rfl rfl rfl) rfl ?_
  refine w_p (zAc (v := .bool _) rfl rfl) rfl ?_
  refine zAf (zAd (hK8 _ _ ?_))
  refine zAz rfl rfl (fun h25 => ?_) (fun h25 => ?_)
  ·
   try simp only [zS] at h25
   refine zAg (fun K27 hK26 => ?_)
   refine zAb (w_p (zAc (v := _) rfl rfl) rfl ?_)
   refine w_p (zAc (v := _) rfl rfl) rfl ?_
   refine w_p (zAc (v := _) rfl rfl) rfl ?_
   refine zAf (zAd (hK26 _ _ ?_))
   refine zA2 (zA1 (zAm (zA3 (l := [.tmp 2, .tmp 3, .tmp 4]) (vs := [_, _, _]) rfl ⟨⟨rfl, (rfl : _ = Value.int _ _)⟩, ⟨rfl, (rfl : _ = Value.int _ _)⟩, ⟨rfl, (rfl : _ = Value.int _ _)⟩, trivial⟩ ?_)))
   try simp only [List.any_cons, List.any_nil, Bool.or_false, Bool.or_eq_false_iff] at h16 h25
   first
     | exact ⟨tup3 (hinv.trans ((zBm hi2 (by rw [zDd _ _ j hj2 (by assumption) hfl]; match j, hj2 with | 0, _ => decide | 1, _ => decide | 2, _ => decide | 3, _ => decide)).trans (by rw [zDd _ _ j hj2 (by assumption) hfl]))), hs24.tail.tail.tail⟩
     | exact ⟨tup3 (hinv.trans (zCf (by omega) _)), hs24.tail.tail.tail⟩
     | (refine ⟨tup3 ?_, hs24.tail.tail.tail⟩; unfold check; rw [if_pos (by simp [h16, h25])]; done)
     | (refine ⟨tup3 ?_, hs24.tail.tail.tail⟩; unfold check; rw [if_neg (by simp [h16, h25]), if_pos (by omega)]; done)
     | (refine ⟨tup3 ?_, hs24.tail.tail.tail⟩; unfold check; rw [if_neg (by simp [h16, h25]), if_neg (by omega), if_pos (by omega)]; done)
  try simp only [zS] at h25
  refine zAg (fun K29 hK28 => ?_)
  refine zAb (w_p (zAh (o := 1) (i := 1) underlying31 rfl sizeOf28 rfl rfl rfl) rfl ?_)
  refine w_p (zAh (o := 0) (i := 0) underlying28 rfl sizeOf3 rfl rfl rfl) rfl ?_
  refine w_p (zAk isAgg3 hs24 rfl rfl (zAj (i := 2) (vs := [_]) rfl rfl)) rfl ?_
  refine w_p (zAh (o := 1) (i := 1) underlying31 rfl sizeOf28 rfl rfl rfl) rfl ?_
  refine w_p (zAh (o := 1) (i := 1) underlying28 rfl sizeOf3 rfl rfl rfl) rfl ?_
  refine w_p (zAk isAgg3 hs24 rfl rfl (zAj (i := 2) (vs := [_]) rfl rfl)) rfl ?_
  refine w_p (y_gtr rfl rfl rfl rfl) rfl ?_
  refine w_p (zAc (v := .bool _) rfl rfl) rfl ?_
  refine zAf (zAd (hK28 _ _ ?_))
  refine zAz rfl rfl (fun h30 => ?_) (fun h30 => ?_)
  ·
   try simp only [zS] at h30
   refine zAg (fun K32 hK31 => ?_)
   refine zAb (w_p (zAc (v := _) rfl rfl) rfl ?_)
   refine w_p (zAc (v := _) rfl rfl) rfl ?_
   refine w_p (zAc (v := _) rfl rfl) rfl ?_
   refine zAf (zAd (hK31 _ _ ?_))
   refine zA2 (zA1 (zAm (zA3 (l := [.tmp 2, .tmp 3, .tmp 4]) (vs := [_, _, _]) rfl ⟨⟨rfl, (rfl : _ = Value.int _ _)⟩, ⟨rfl, (rfl : _ = Value.int _ _)⟩, ⟨rfl, (rfl : _ = Value.int _ _)⟩, trivial⟩ ?_)))
   try simp only [List.any_cons, List.any_nil, Bool.or_false, Bool.or_eq_false_iff] at h16 h25 h30
   first
     | exact ⟨tup3 (hinv.trans ((zBm hi2 (by rw [zDd _ _ j hj2 (by assumption) hfl]; match j, hj2 with | 0, _ => decide | 1, _ => decide | 2, _ => decide | 3, _ => decide)).trans (by rw [zDd _ _ j hj2 (by assumption) hfl]))), hs24.tail.tail.tail⟩
     | exact ⟨tup3 (hinv.trans (zCf (by omega) _)), hs24.tail.tail.tail⟩
     | (refine ⟨tup3 ?_, hs24.tail.tail.tail⟩; unfold check; rw [if_pos (by simp [h16, h25, h30])]; done)
     | (refine ⟨tup3 ?_, hs24.tail.tail.tail⟩; unfold check; rw [if_neg (by simp [h16, h25, h30]), if_pos (by omega)]; done)
     | (refine ⟨tup3 ?_, hs24.tail.tail.tail⟩; unfold check; rw [if_neg (by simp [h16, h25, h30]), if_neg (by omega), if_pos (by omega)]; done)
  try simp only [zS] at h30
  refine zAg (fun K34 hK33 => ?_)
  refine zAb (w_p (zAh (o := 3) (i := 2) underlying31 rfl sizeOf29 rfl rfl rfl) rfl ?_)
  refine w_p (zAk isAgg29 hs24 rfl rfl (zAj (i := 2) (vs := [_]) rfl rfl)) rfl ?_
  refine w_p (zBd underlying29 rfl rfl) rfl ?_
  refine w_p (y_gtr rfl rfl rfl rfl) rfl ?_
  refine w_p (zAc (v := .bool _) rfl rfl) rfl ?_
  refine zAf (zAd (hK33 _ _ ?_))
  refine zAz rfl rfl (fun h35 => ?_) (fun h35 => ?_)
  ·
   try simp only [zS] at h35
   refine zAg (fun K37 hK36 => ?_)
   refine zAb (w_p (zAc (v := _) rfl rfl) rfl ?_)
   refine w_p (zAc (v := _) rfl rfl) rfl ?_
   refine w_p (zAc (v := _) rfl rfl) rfl ?_
   refine zAf (zAd (hK36 _ _ ?_))
   refine zA2 (zA1 (zAm (zA3 (l := [.tmp 2, .tmp 3, .tmp 4]) (vs := [_, _, _]) rfl ⟨⟨rfl, (rfl : _ = Value.int _ _)⟩, ⟨rfl, (rfl : _ = Value.int _ _)⟩, ⟨rfl, (rfl : _ = Value.int _ _)⟩, trivial⟩ ?_)))
   try simp only [List.any_cons, List.any_nil, Bool.or_false, Bool.or_eq_false_iff] at h16 h25 h30 h35
   first
     | exact ⟨tup3 (hinv.trans ((zBm hi2 (by rw [zDd _ _ j hj2 (by assumption) hfl]; match j, hj2 with | 0, _ => decide | 1, _ => decide | 2, _ => decide | 3, _ => decide)).trans (by rw [zDd _ _ j hj2 (by assumption) hfl]))), hs24.tail.tail.tail⟩
     | exact ⟨tup3 (hinv.trans (zCf (by omega) _)), hs24.tail.tail.tail⟩
     | (refine ⟨tup3 ?_, hs24.tail.tail.tail⟩; unfold check; rw [if_pos (by simp [h16, h25, h30, h35])]; done)
     | (refine ⟨tup3 ?_, hs24.tail.tail.tail⟩; unfold check; rw [if_neg (by simp [h16, h25, h30, h35]), if_pos (by omega)]; done)
     | (refine ⟨tup3 ?_, hs24.tail.tail.tail⟩; unfold check; rw [if_neg (by simp [h16, h25, h30, h35]), if_neg (by omega), if_pos (by omega)]; done)
  try simp only [zS] at h35
  refine zAx (zAl (zAd (hK6 _ _ ?_)))
  refine zAg (fun K39 hK38 => ?_)
  refine zAg (fun K41 hK40 => ?_)
  refine zAb (w_p (zAh (o := 3) (i := 2) underlying31 rfl sizeOf29 rfl rfl rfl) rfl ?_)
  refine w_p (zAk isAgg29 hs24 rfl rfl (zAj (i := 2) (vs := [_]) rfl rfl)) rfl ?_
  refine w_p (zBd underlying29 rfl rfl) rfl ?_
  refine w_p (zAe (v := _) rfl rfl) rfl ?_
  refine zAf (zAd (hK40 _ _ ?_))
  refine zAy ?_
  refine zBp [2, 3, 4, 5, 7, 39, 40, 41, 42, 43, 44, 45, 46, 47, 48, 49, 50, 51, 52, 53, 54, 55, 56, 57, 58] [39] (fun k vs w => ∃ i : Nat, vs = [.int .i64 i] ∧ i ≤ p.farms.length ∧ k = p.farms.length - i ∧ check p = farmsErr (names (p.farms.take i)) (i : Nat) (p.farms.drop i) ∧ St w0 w ((b3, blk 31 (p.cells a c)) :: F)) (p.farms.length) ?_ ?_
  ·
   try simp only [List.any_cons, List.any_nil, Bool.or_false, Bool.or_eq_false_iff] at h16 h25 h30 h35
   exact ⟨0, rfl, by omega, by omega, (by unfold check; rw [if_neg (by simp [h16, h25, h30, h35]), if_neg (by omega), if_neg (by omega)]; rfl), hs24.tail.tail⟩
  intro k vs μ w44 hI K43 hN42
  obtain ⟨i, rfl, hia, rfl, hinv, hs⟩ := hI
  refine zAg (fun K46 hK45 => ?_)
  refine zAb (w_p (zBt rfl rfl rfl rfl) rfl ?_)
  refine zAf (zAd (hK45 _ _ ?_))
  refine zAg (fun K48 hK47 => ?_)
  refine zAz rfl rfl (fun h49 => ?_) (fun h49 => ?_)
  ·
   try simp only [zS] at h49
   refine zAx (zAd (hK47 _ _ ?_))
   refine zAg (fun K51 hK50 => ?_)
   refine zAy ?_
   refine zAg (fun K53 hK52 => ?_)
   refine zAb (w_p (zAe (v := .int _ _) rfl rfl) rfl ?_)
   refine w_p (zAc (v := .int _ _) rfl rfl) rfl ?_
   refine zAf (zAd (hK52 _ _ ?_))
   refine zAg (fun K55 hK54 => ?_)
   have hi2 : i < p.farms.length := by omega
   refine zAb (zAt zAa call85 rfl rfl rfl rfl (c85 hs) ?_)
   rintro _ w57 ⟨bq, rfl, hs58⟩
   refine w_p (zBd underlying144 rfl rfl) rfl ?_
   refine w_p (zAe (v := _) rfl rfl) rfl ?_
   refine zAf (zAd (hK54 _ _ ?_))
   refine zAy ?_
   refine zBp [2, 3, 4, 7, 44, 45, 46, 47, 48, 49, 50, 51, 52, 53, 54, 55, 56, 57] [44] (fun k vs w => ∃ j : Nat, vs = [.int .i64 j] ∧ j ≤ 4 ∧ k = 4 - j ∧ (∀ q < j, flawIs (names (p.farms.take i)) p.farms[i] q = false) ∧ St w0 w ((bq, blk 148 flawCells) :: (b3, blk 31 (p.cells a c)) :: F)) (4) ?_ ?_
   ·
    exact ⟨0, rfl, by omega, by omega, (fun q hq => by omega), hs58⟩
   intro k vs μ w61 hI K60 hN59
   obtain ⟨j, rfl, hja, rfl, hfl, hs⟩ := hI
   refine zAg (fun K63 hK62 => ?_)
   refine zAb (w_p (zBt rfl rfl rfl rfl) rfl ?_)
   refine zAf (zAd (hK62 _ _ ?_))
   refine zAg (fun K65 hK64 => ?_)
   refine zAz rfl rfl (fun h66 => ?_) (fun h66 => ?_)
   ·
    try simp only [zS] at h66
    refine zAx (zAd (hK64 _ _ ?_))
    refine zAg (fun K68 hK67 => ?_)
    refine zAy ?_
    refine zAg (fun K70 hK69 => ?_)
    have hj2 : j < 4 := by omega
    have hxq := flaw_at (w0 := w0) (L := (bq, blk 148 flawCells) :: (b3, blk 31 (p.cells a c)) :: F) (i := 0) rfl hj2
    refine zAb (w_p (zA7 underlying144 sizeOf148 rfl rfl rfl rfl (i := _) rfl (by omega)) rfl ?_)
    refine w_p (zA6 (vs := [_, _]) isAgg148 sizeOf148 hs rfl rfl hxq) rfl ?_
    refine zA9 (cs := [_, _]) zAa zeroValue148 rfl hs (fun b71 w72 hs73 => ?_)
    refine zA5 (i := 0) (v := .agg #[.int _ _, .func _ _ _]) (vs := [_, _]) zAa sizeOf148 rfl rfl rfl rfl rfl (by simp [Value.oneCell']) hs73 rfl (Nat.le_of_ble_eq_true rfl) (fun w74 hs75 => ?_)
    refine zAf (zAd (hK69 _ _ ?_))
    refine zAg (fun K77 hK76 => ?_)
    refine zAb (w_p (zAh (o := 1) (i := 1) underlying148 rfl sizeOf146 rfl rfl rfl) rfl ?_)
    refine w_p (zAk isAgg146 hs75 rfl rfl (zAj (i := 0) (vs := [_]) rfl rfl)) rfl ?_
    refine w_p (zAh (o := 3) (i := 2) underlying31 rfl sizeOf29 rfl rfl rfl) rfl ?_
    refine w_p (zAk isAgg29 hs75 rfl rfl (zAj (i := 2) (vs := [_]) rfl rfl)) rfl ?_
    refine w_p (zAe (v := .int _ _) rfl rfl) rfl ?_
    refine w_callV zAa rfl rfl rfl rfl (flaw_con a c p.farms hl3 hc ha.cons.cons.cons i hi2 (hnm _ (List.getElem_mem hi2)) j hj2 hs75) ?_
    rintro _ w79 ⟨rfl, hs80⟩
    refine zAf (zAd (hK76 _ _ ?_))
    refine zAz rfl rfl (fun h81 => ?_) (fun h81 => ?_)
    ·
     try simp only [zS] at h81
     refine zAg (fun K83 hK82 => ?_)
     refine zB7 [] [(0, 0), (1, 0), (2, 1), (3, 0), (4, 0), (5, 0)] zBu (by kernel_rfl) hs80 (fun w84 hs85 => ?_)
     refine zAp rfl zAa rfl (fun _ => (zAe (v := .int _ _) rfl rfl)) ?_
     refine zAp rfl zAa rfl (fun _ => (zAh (o := 0) (i := 0) underlying148 rfl sizeOf36 rfl rfl rfl)) ?_
     refine zBa rfl zAa rfl hs85 (fun _ hq => (zAk isAgg36 hq rfl rfl (zAj (i := 0) (vs := [_]) rfl rfl))) ?_
     refine zAp rfl zAa rfl (fun _ => (zAc (v := _) rfl rfl)) ?_
     refine zAp rfl zAa rfl (fun _ => (zAc (v := .int _ _) rfl rfl)) ?_
     refine zAp rfl zAa rfl (fun _ => (zAc (v := .int _ _) rfl rfl)) ?_
     refine zB1 ?_
     refine zAd (hK82 _ _ ?_)
     refine zA2 (zA1 (zAm (zAm (zA1 (zA1 (zAm (zAm (zA1 (zAm (zA3 (l := [.tmp 2, .tmp 3, .tmp 4]) (vs := [_, _, _]) rfl ⟨⟨rfl, (rfl : _ = Value.int _ _)⟩, ⟨rfl, (rfl : _ = Value.int _ _)⟩, ⟨rfl, (rfl : _ = Value.int _ _)⟩, trivial⟩ ?_))))))))))
     try simp only [List.any_cons, List.any_nil, Bool.or_false, Bool.or_eq_false_iff] at h16 h25 h30 h35 h49 h66 h81
     first
       | exact ⟨tup3 (hinv.trans ((zBm hi2 (by rw [zDd _ _ j hj2 (by assumption) hfl]; match j, hj2 with | 0, _ => decide | 1, _ => decide | 2, _ => decide | 3, _ => decide)).trans (by rw [zDd _ _ j hj2 (by assumption) hfl]))), hs85.tail.tail.tail⟩
       | exact ⟨tup3 (hinv.trans (zCf (by omega) _)), hs85.tail.tail.tail⟩
       | (refine ⟨tup3 ?_, hs85.tail.tail.tail⟩; unfold check; rw [if_pos (by simp [h16, h25, h30, h35, h49, h66, h81])]; done)
       | (refine ⟨tup3 ?_, hs85.tail.tail.tail⟩; unfold check; rw [if_neg (by simp [h16, h25, h30, h35, h49, h66, h81]), if_pos (by omega)]; done)
       | (refine ⟨tup3 ?_, hs85.tail.tail.tail⟩; unfold check; rw [if_neg (by simp [h16, h25, h30, h35, h49, h66, h81]), if_neg (by omega), if_pos (by omega)]; done)
    try simp only [zS] at h81
    refine zAx (zAl (zAd (hK67 _ _ ?_)))
    refine zAb (w_p (zBf rfl rfl rfl rfl (by omega) (by omega)) rfl ?_)
    refine w_p (zAe (v := .int _ _) rfl rfl) rfl ?_
    refine zAf (zAd (hN59 _ _ (Nx.intro (4 - (j + 1)) (by omega) (by repeat (first | exact zAv | refine zAu rfl ?_ | refine zAs rfl ?_ _ | refine zAr rfl ?_)) ?_)))
    exact ⟨j + 1, rfl, by omega, rfl, (fun q hq => by rcases Nat.lt_or_ge q j with h | h; exact hfl q h; have hqj : q = j := (by omega); subst hqj; assumption), hs80.tail⟩
   try simp only [zS] at h66
   refine zBl (zAo (zAo (zA4 (zAl (zAd (hK50 _ _ ?_))))))
   refine zAb (w_p (zBf rfl rfl rfl rfl (by omega) (by omega)) rfl ?_)
   refine w_p (zAe (v := .int _ _) rfl rfl) rfl ?_
   refine zAf (zAd (hN42 _ _ (Nx.intro (p.farms.length - (i + 1)) (by omega) (by repeat (first | exact zAv | refine zAu rfl ?_ | refine zAs rfl ?_ _ | refine zAr rfl ?_)) ?_)))
   have hj4 : j = 4 := by omega
   subst hj4
   exact ⟨i + 1, rfl, by omega, rfl, hinv.trans (farmsErr_step hi2 (fErr_fine _ _ hfl)), hs.tail⟩
  try simp only [zS] at h49
  refine zBl (zAo (zAo (zA4 (zAd (hK38 _ _ ?_)))))
  refine zAg (fun K87 hK86 => ?_)
  refine zAb (w_p (zAc (v := _) rfl rfl) rfl ?_)
  refine w_p (zAc (v := _) rfl rfl) rfl ?_
  refine w_p (zAc (v := _) rfl rfl) rfl ?_
  refine zAf (zAd (hK86 _ _ ?_))
  refine zA2 (zA3 (l := [.tmp 2, .tmp 3, .tmp 4]) (vs := [_, _, _]) rfl ⟨⟨rfl, (rfl : _ = Value.int _ _)⟩, ⟨rfl, (rfl : _ = Value.int _ _)⟩, ⟨rfl, (rfl : _ = Value.int _ _)⟩, trivial⟩ ?_)
  try simp only [List.any_cons, List.any_nil, Bool.or_false, Bool.or_eq_false_iff] at h16 h25 h30 h35 h49
  first
    | exact ⟨tup3 (hinv.trans ((zBm hi2 (by rw [zDd _ _ j hj2 (by assumption) hfl]; match j, hj2 with | 0, _ => decide | 1, _ => decide | 2, _ => decide | 3, _ => decide)).trans (by rw [zDd _ _ j hj2 (by assumption) hfl]))), hs.tail⟩
    | exact ⟨tup3 (hinv.trans (zCf (by omega) _)), hs.tail⟩
    | (refine ⟨tup3 ?_, hs.tail⟩; unfold check; rw [if_pos (by simp [h16, h25, h30, h35, h49])]; done)
    | (refine ⟨tup3 ?_, hs.tail⟩; unfold check; rw [if_neg (by simp [h16, h25, h30, h35, h49]), if_pos (by omega)]; done)
    | (refine ⟨tup3 ?_, hs.tail⟩; unfold check; rw [if_neg (by simp [h16, h25, h30, h35, h49]), if_neg (by omega), if_pos (by omega)]; done)

end Go.Proofs.Cb
/- Plain words of the cable layer: loads, all cables, which do. No conditions. -/
namespace Go.Rt.Ca
def Farm.Ok (f : Farm) : Prop := 1 ≤ f.way ∧ f.way ≤ 4 ∧ 0 ≤ f.notice ∧ f.notice ≤ 3 ∧ f.way ≤ f.keep ∧ f.keep ≤ 9 ∧ 0 ≤ f.lo ∧ f.lo ≤ f.hi ∧ f.hi ≤ 60
structure Port.Ok (p : Port) : Prop where
  hold : 1 ≤ p.hold ∧ p.hold ≤ 200
  come : 0 ≤ p.clo ∧ p.clo ≤ p.chi ∧ p.chi ≤ 10
  len : p.farms.length ≤ 3
  farm : ∀ f ∈ p.farms, f.Ok
structure Load where
  least : Int
  most : Int
  vain : Int
  deriving DecidableEq
def Load.ints (x : Load) : List Int := [x.least, x.most, x.vain]
def fresh (f : Farm) (c day : Int) : Bool := decide (0 ≤ c) && !out f.way f.keep (day - c - f.notice)
def step (day : Int) (x : Load) (q : Farm × Int) : Load :=
  if q.2 = -1 then x else if fresh q.1 q.2 day then ⟨x.least + q.1.lo, x.most + q.1.hi, x.vain⟩ else ⟨x.least, x.most, x.vain + q.1.hi⟩
def onUpto (fs : List Farm) (l : List Int) (day : Int) (i : Nat) : Load := ((fs.zip l).take i).foldl (step day) ⟨0, 0, 0⟩
def on (fs : List Farm) (l : List Int) (day : Int) : Load := (fs.zip l).foldl (step day) ⟨0, 0, 0⟩
theorem take_zip_succ {α β : Type} {fs : List α} {l : List β} {i : Nat} (h : i < fs.length) (h2 : i < l.length) : (fs.zip l).take (i + 1) = (fs.zip l).take i ++ [(fs[i], l[i])] := by
  rw [List.take_succ_eq_append_getElem (by simp; omega)]
  simp
theorem zC3 {fs : List Farm} {l : List Int} {i : Nat} (day : Int) (h : i < fs.length) (h2 : i < l.length) : onUpto fs l day (i + 1) = step day (onUpto fs l day i) (fs[i], l.getD i 0) := by
  unfold onUpto
  rw [take_zip_succ h h2, List.foldl_append]
  simp [List.getD, h2]
theorem onUpto_all {fs : List Farm} {l : List Int} {i : Nat} (day : Int) (h : fs.length ≤ i) : onUpto fs l day i = on fs l day := by
  unfold onUpto on
  rw [List.take_of_length_le (by simp; omega)]
theorem fold_bound {fs : List (Farm × Int)} (day : Int) (hok : ∀ q ∈ fs, q.1.Ok) : ∀ x : Load, x.least ≤ (fs.foldl (step day) x).least ∧ (fs.foldl (step day) x).least ≤ x.least + 60 * fs.length ∧ x.most ≤ (fs.foldl (step day) x).most ∧ (fs.foldl (step day) x).most ≤ x.most + 60 * fs.length ∧
    x.vain ≤ (fs.foldl (step day) x).vain ∧ (fs.foldl (step day) x).vain ≤ x.vain + 60 * fs.length := by
  induction fs with
  | nil => intro x; simp
  | cons q fs ih =>
    intro x
    have hq := hok q (.head _)
    unfold Farm.Ok at hq
    have := ih (fun q hq => hok q (.tail _ hq)) (step day x q)
    simp only [List.foldl_cons, List.length_cons, Int.natCast_add]
    unfold step at this ⊢
    split at this <;> rename_i h1
    · simp only [h1, if_true] at this ⊢; omega
    · split at this <;> rename_i h2
      · simp only [h1, h2, if_true, if_false] at this ⊢; omega
      · simp only [h1, h2, Bool.false_eq_true, if_true, if_false] at this ⊢; omega
theorem onUpto_bound {fs : List Farm} {l : List Int} (day : Int) (i : Nat) (hi : i ≤ 3) (hok : ∀ f ∈ fs, f.Ok) : 0 ≤ (onUpto fs l day i).least ∧ (onUpto fs l day i).least ≤ 180 ∧ 0 ≤ (onUpto fs l day i).most ∧ (onUpto fs l day i).most ≤ 180 ∧ 0 ≤ (onUpto fs l day i).vain ∧ (onUpto fs l day i).vain ≤ 180 := by
  have := fold_bound (fs := (fs.zip l).take i) day (fun q hq => hok _ (List.of_mem_zip (List.mem_of_mem_take hq)).1) ⟨0, 0, 0⟩
  have hle : ((fs.zip l).take i).length ≤ i := by rw [List.length_take]; omega
  unfold onUpto
  dsimp only at this
  omega
theorem on_bound {fs : List Farm} {l : List Int} (day : Int) (h3 : fs.length ≤ 3) (hok : ∀ f ∈ fs, f.Ok) : 0 ≤ (on fs l day).least ∧ (on fs l day).least ≤ 180 ∧ 0 ≤ (on fs l day).most ∧ (on fs l day).most ≤ 180 ∧ 0 ≤ (on fs l day).vain ∧ (on fs l day).vain ≤ 180 := by
  rw [← onUpto_all (i := 3) day h3]; exact onUpto_bound day 3 (by omega) hok
theorem step_never {day : Int} {x : Load} {f : Farm} {c : Int} (h : c = -1) : step day x (f, c) = x := by simp [step, h]
theorem step_fresh {day : Int} {x : Load} {f : Farm} {c : Int} (h : ¬ c = -1) (h2 : fresh f c day = true) : step day x (f, c) = ⟨x.least + f.lo, x.most + f.hi, x.vain⟩ := by simp [step, h, h2]
theorem step_vain {day : Int} {x : Load} {f : Farm} {c : Int} (h : ¬ c = -1) (h2 : fresh f c day = false) : step day x (f, c) = ⟨x.least, x.most, x.vain + f.hi⟩ := by simp [step, h, h2]
def Port.days (p : Port) : List Int := (List.range (p.chi - p.clo + 1).toNat).map fun k : Nat => p.clo + (k : Int)
def loads (p : Port) (l : List Int) : List Load := p.days.map fun d => on p.farms l d
def vain (p : Port) (l : List Int) : Int := (loads p l).foldl (fun n x => max n x.vain) 0
def full (p : Port) (l : List Int) : Bool := p.days.all fun d => decide (p.hold ≤ (on p.farms l d).least)
def never (p : Port) (l : List Int) : Bool := p.days.all fun d => decide ((on p.farms l d).most < p.hold)
def does (p : Port) (l : List Int) : Int := if full p l then 1 else if never p l then 2 else 0
def cutStep (n : Int) (q : Farm × Int) : Int := if q.2 = -1 then n else n + q.1.hi
def cutUpto (fs : List Farm) (l : List Int) (i : Nat) : Int := ((fs.zip l).take i).foldl cutStep 0
def cut (fs : List Farm) (l : List Int) : Int := (fs.zip l).foldl cutStep 0
theorem cutUpto_succ {fs : List Farm} {l : List Int} {i : Nat} (h : i < fs.length) (h2 : i < l.length) : cutUpto fs l (i + 1) = cutStep (cutUpto fs l i) (fs[i], l.getD i 0) := by
  unfold cutUpto
  rw [take_zip_succ h h2, List.foldl_append]
  simp [List.getD, h2]
theorem cutUpto_all {fs : List Farm} {l : List Int} {i : Nat} (h : fs.length ≤ i) : cutUpto fs l i = cut fs l := by
  unfold cutUpto cut
  rw [List.take_of_length_le (by simp; omega)]
theorem cutFold_bound {fs : List (Farm × Int)} (hok : ∀ q ∈ fs, q.1.Ok) : ∀ x : Int, x ≤ fs.foldl cutStep x ∧ fs.foldl cutStep x ≤ x + 60 * fs.length := by
  induction fs with
  | nil => intro x; simp
  | cons q fs ih =>
    intro x
    have hq := hok q (.head _)
    unfold Farm.Ok at hq
    have := ih (fun q hq => hok q (.tail _ hq)) (cutStep x q)
    simp only [List.foldl_cons, List.length_cons, Int.natCast_add]
    unfold cutStep at this ⊢
    split at this <;> rename_i h1 <;> simp only [h1, if_true, if_false] at this ⊢ <;> omega
theorem cutUpto_bound {fs : List Farm} {l : List Int} (i : Nat) (hi : i ≤ 3) (hok : ∀ f ∈ fs, f.Ok) : 0 ≤ cutUpto fs l i ∧ cutUpto fs l i ≤ 180 := by
  have := cutFold_bound (fs := (fs.zip l).take i) (fun q hq => hok _ (List.of_mem_zip (List.mem_of_mem_take hq)).1) 0
  have hle : ((fs.zip l).take i).length ≤ i := by rw [List.length_take]; omega
  unfold cutUpto
  omega
/-- The days of Come, as loops come to them. -/
theorem days_len (p : Port) : p.days.length = (p.chi - p.clo + 1).toNat := by simp [Port.days]
theorem loads_len (p : Port) (l : List Int) : (loads p l).length = (p.chi - p.clo + 1).toNat := by simp [loads, days_len]
theorem loads_take_succ {p : Port} (l : List Int) {i : Nat} (hi : (i : Int) < p.chi - p.clo + 1) : (loads p l).take (i + 1) = (loads p l).take i ++ [on p.farms l (p.clo + i)] := by
  have h : i < (loads p l).length := by rw [loads_len]; omega
  rw [List.take_succ_eq_append_getElem h]
  simp [loads, Port.days]
def fullUpto (p : Port) (l : List Int) (i : Nat) : Bool := (p.days.take i).all fun d => decide (p.hold ≤ (on p.farms l d).least)
def neverUpto (p : Port) (l : List Int) (i : Nat) : Bool := (p.days.take i).all fun d => decide ((on p.farms l d).most < p.hold)
theorem days_take_succ {p : Port} {i : Nat} (hi : (i : Int) < p.chi - p.clo + 1) : p.days.take (i + 1) = p.days.take i ++ [p.clo + (i : Int)] := by
  have h : i < p.days.length := by rw [days_len]; omega
  rw [List.take_succ_eq_append_getElem h]
  simp [Port.days]
theorem fullUpto_succ {p : Port} (l : List Int) {i : Nat} (hi : (i : Int) < p.chi - p.clo + 1) : fullUpto p l (i + 1) = (fullUpto p l i && decide (p.hold ≤ (on p.farms l (p.clo + i)).least)) := by
  unfold fullUpto; rw [days_take_succ hi, List.all_append]; simp
theorem fullUpto_all {p : Port} (l : List Int) {i : Nat} (hi : p.chi - p.clo + 1 ≤ i) : fullUpto p l i = full p l := by
  unfold fullUpto full; rw [List.take_of_length_le (by rw [days_len]; omega)]
theorem full_false {p : Port} (l : List Int) {i : Nat} (h : fullUpto p l i = false) : full p l = false := by
  unfold fullUpto at h; unfold full
  rw [List.all_eq_false] at h ⊢
  obtain ⟨x, hx, h⟩ := h
  exact ⟨x, List.mem_of_mem_take hx, h⟩
def vainUpto (p : Port) (l : List Int) (i : Nat) : Int := ((loads p l).take i).foldl (fun n x => max n x.vain) 0
theorem vainUpto_succ {p : Port} (l : List Int) {i : Nat} (hi : (i : Int) < p.chi - p.clo + 1) : vainUpto p l (i + 1) = max (vainUpto p l i) (on p.farms l (p.clo + i)).vain := by
  unfold vainUpto; rw [loads_take_succ l hi, List.foldl_append]; rfl
theorem vainUpto_all {p : Port} (l : List Int) {i : Nat} (hi : p.chi - p.clo + 1 ≤ i) : vainUpto p l i = vain p l := by
  unfold vainUpto vain; rw [List.take_of_length_le (by rw [loads_len]; omega)]
end Go.Rt.Ca
set_option maxRecDepth 20000
namespace Go.Proofs.Cb
open Go.Proofs.Tryz
open Go.Rt Go.Rt.Ca
attribute [local irreducible] WL WC Con Yd At Ats Sl Agree DW
theorem Try_flat28 : flatInts Tryz.prog 28 2 = true := by kernel_rfl
theorem c117 {w0 w : World} {F : List (Nat × Obj)} (x : Int) (hs : St w0 w F) :
  Con Tryz.prog 117 [.int .i64 x] w fun v w' => v = .bool false ∧ St w0 w' F := by
  refine zAw (n := 6) func117 rfl rfl (Nat.le_of_ble_eq_true rfl) ?_
  refine zAg (fun K2 hK1 => ?_)
  refine zAb (w_p (zAc (v := _) rfl rfl) rfl ?_)
  refine zAf (zAd (hK1 _ _ ?_))
  refine zAg (fun K4 hK3 => ?_)
  refine zAb (w_p (zAe (v := .int _ _) rfl rfl) rfl ?_)
  refine w_p (zAe (v := .int _ _) rfl rfl) rfl ?_
  refine w_p (zCc rfl rfl rfl rfl) rfl ?_
  refine w_p (zAc (v := .bool _) rfl rfl) rfl ?_
  refine zAf (zAd (hK3 _ _ ?_))
  refine zA2 (zA3 (l := [.tmp 2]) (vs := [_]) rfl ⟨⟨rfl, (rfl : _ = Value.bool _)⟩, trivial⟩ ?_)
  exact ⟨by simp [retV], hs⟩

def cmpI (a b : Int) : Int := if a < b then -1 else if b < a then 1 else 0
theorem c108 {w0 w : World} {F : List (Nat × Obj)} (a b : Int) (hs : St w0 w F) :
  Con Tryz.prog 108 [.int .i64 a, .int .i64 b] w fun v w' => v = .int .i64 (cmpI a b) ∧ St w0 w' F := by
  refine zAw (n := 20) func108 rfl rfl (Nat.le_of_ble_eq_true rfl) ?_
  refine zAg (fun K2 hK1 => ?_)
  refine zAb (w_p (zAc (v := _) rfl rfl) rfl ?_)
  refine zAf (zAd (hK1 _ _ ?_))
  refine zAg (fun K4 hK3 => ?_)
  refine zAb (w_p (zAe (v := .int _ _) rfl rfl) rfl ?_)
  refine zAt zAa call117 rfl rfl rfl rfl (c117 _ hs) ?_
  rintro _ w6 ⟨rfl, hs7⟩
  refine w_p (zAc (v := .bool _) rfl rfl) rfl ?_
  refine zAf (zAd (hK3 _ _ ?_))
  refine zAg (fun K9 hK8 => ?_)
  refine zAb (w_p (zAe (v := .int _ _) rfl rfl) rfl ?_)
  refine zAt zAa call117 rfl rfl rfl rfl (c117 _ hs7) ?_
  rintro _ w11 ⟨rfl, hs12⟩
  refine w_p (zAc (v := .bool _) rfl rfl) rfl ?_
  refine zAf (zAd (hK8 _ _ ?_))
  refine zAg (fun K14 hK13 => ?_)
  refine zAg (fun K16 hK15 => ?_)
  refine zAb (w_p (zAe (v := .bool _) rfl rfl) rfl ?_)
  refine zAf (zAd (hK15 _ _ ?_))
  refine zB0 rfl rfl ?_
  refine zAx (zAd (hK13 _ _ ?_))
  refine zAg (fun K18 hK17 => ?_)
  refine zAg (fun K20 hK19 => ?_)
  refine zAb (w_p (zAe (v := .bool _) rfl rfl) rfl ?_)
  refine zAf (zAd (hK19 _ _ ?_))
  refine zB0 rfl rfl ?_
  refine zAx (zAd (hK17 _ _ ?_))
  refine zAg (fun K22 hK21 => ?_)
  refine zAg (fun K24 hK23 => ?_)
  refine zAb (w_p (zAe (v := .int _ _) rfl rfl) rfl ?_)
  refine w_p (zAe (v := .int _ _) rfl rfl) rfl ?_
  refine w_p (zBt rfl rfl rfl rfl) rfl ?_
  refine zAf (zAd (hK23 _ _ ?_))
  refine zAz rfl rfl (fun h25 => ?_) (fun h25 => ?_)
  ·
   try simp only [zS] at h25
   refine zAg (fun K27 hK26 => ?_)
   refine zAb (w_p (zAc (v := _) rfl rfl) rfl ?_)
   refine zAf (zAd (hK26 _ _ ?_))
   refine zA2 (zAm (zA3 (l := [.tmp 4]) (vs := [_]) rfl ⟨⟨rfl, (rfl : _ = Value.int _ _)⟩, trivial⟩ ?_))
   exact ⟨congrArg (Value.int .i64) (by unfold cmpI; (repeat' split) <;> first | rfl | omega), hs12⟩
  try simp only [zS] at h25
  refine zAx (zAd (hK21 _ _ ?_))
  refine zAg (fun K29 hK28 => ?_)
  refine zAg (fun K31 hK30 => ?_)
  refine zAb (w_p (zAe (v := .int _ _) rfl rfl) rfl ?_)
  refine w_p (zAe (v := .int _ _) rfl rfl) rfl ?_
  refine w_p (y_gtr rfl rfl rfl rfl) rfl ?_
  refine zAf (zAd (hK30 _ _ ?_))
  refine zAz rfl rfl (fun h32 => ?_) (fun h32 => ?_)
  ·
   try simp only [zS] at h32
   refine zAg (fun K34 hK33 => ?_)
   refine zAb (w_p (zAc (v := _) rfl rfl) rfl ?_)
   refine zAf (zAd (hK33 _ _ ?_))
   refine zA2 (zAm (zA3 (l := [.tmp 4]) (vs := [_]) rfl ⟨⟨rfl, (rfl : _ = Value.int _ _)⟩, trivial⟩ ?_))
   exact ⟨congrArg (Value.int .i64) (by unfold cmpI; (repeat' split) <;> first | rfl | omega), hs12⟩
  try simp only [zS] at h32
  refine zAx (zAd (hK28 _ _ ?_))
  refine zAg (fun K36 hK35 => ?_)
  refine zAb (w_p (zAc (v := _) rfl rfl) rfl ?_)
  refine zAf (zAd (hK35 _ _ ?_))
  refine zA2 (zA3 (l := [.tmp 4]) (vs := [_]) rfl ⟨⟨rfl, (rfl : _ = Value.int _ _)⟩, trivial⟩ ?_)
  exact ⟨congrArg (Value.int .i64) (by unfold cmpI; (repeat' split) <;> first | rfl | omega), hs12⟩

theorem cmp_here {a b : List Int} {i : Nat} (h : a.take i = b.take i) (ha : i < a.length) (hb : i < b.length) (hne : ¬ cmpI a[i] b[i] = 0) : decide (cmpI a[i] b[i] < 0) = less a b := by
  have hn : a[i] ≠ b[i] := fun e => hne (by unfold cmpI; rw [e]; simp)
  rw [zDf h ha hb hn]
  unfold cmpI
  rw [Bool.eq_iff_iff]
  simp only [decide_eq_true_eq]
  split
  · simp [*]
  · split <;> simp <;> omega
theorem cmp_zero {a b : Int} (h : cmpI a b = 0) : a = b := by
  unfold cmpI at h
  split at h
  · omega
  · split at h <;> omega
theorem c86 {w0 w : World} {F : List (Nat × Obj)} (aa ab : Option Addr) (a b : List Int) (ca cb : Nat) (hla : a.length ≤ 9223372036854775807) (hlb : b.length ≤ 9223372036854775807) (ha : Sl w0 F aa 1 (a.map fun x => [Value.int .i64 x])) (hb : Sl w0 F ab 1 (b.map fun x => [Value.int .i64 x])) (hs : St w0 w F) :
  Con Tryz.prog 86 [.slice aa a.length ca, .slice ab b.length cb] w fun v w' => (∃ z, v = .int .i64 z ∧ decide (z < 0) = less a b) ∧ St w0 w' F := by
  refine zAw (n := 36) func86 rfl rfl (Nat.le_of_ble_eq_true rfl) ?_
  refine zAg (fun K2 hK1 => ?_)
  refine zAb (w_p (zAc (v := _) rfl rfl) rfl ?_)
  refine zAf (zAd (hK1 _ _ ?_))
  refine zAg (fun K4 hK3 => ?_)
  refine zAg (fun K6 hK5 => ?_)
  refine zAb (w_p (zAe (v := .slice _ _ _) rfl rfl) rfl ?_)
  refine w_p (zBd underlying43 rfl rfl) rfl ?_
  refine w_p (zAe (v := _) rfl rfl) rfl ?_
  refine zAf (zAd (hK5 _ _ ?_))
  refine zAy ?_
  refine zBp [4, 5, 6, 7, 8, 11, 12, 13, 14, 15, 16, 17, 18, 19, 20, 21, 22, 23, 24, 25, 26, 27, 28, 29, 30] [11] (fun k vs w => ∃ i : Nat, vs = [.int .i64 i] ∧ i ≤ a.length ∧ i ≤ b.length ∧ k = a.length - i ∧ a.take i = b.take i ∧ St w0 w F) (a.length) ?_ ?_
  ·
   exact ⟨0, rfl, by omega, by omega, by omega, rfl, hs⟩
  intro k vs μ w9 hI K8 hN7
  obtain ⟨i, rfl, hia, hib, rfl, hpre, hs⟩ := hI
  refine zAg (fun K11 hK10 => ?_)
  refine zAb (w_p (zBt rfl rfl rfl rfl) rfl ?_)
  refine zAf (zAd (hK10 _ _ ?_))
  refine zAg (fun K13 hK12 => ?_)
  refine zAz rfl rfl (fun h14 => ?_) (fun h14 => ?_)
  ·
   try simp only [zS] at h14
   refine zAx (zAd (hK12 _ _ ?_))
   refine zAg (fun K16 hK15 => ?_)
   refine zAy ?_
   refine zAg (fun K18 hK17 => ?_)
   have hia2 : i < a.length := by omega
   obtain ⟨ba, oa, rfl, hxa⟩ := zC1 ha hia2
   refine zAb (w_p (zAe (v := .int _ _) rfl rfl) rfl ?_)
   refine w_p (zA7 underlying43 sizeOf3 rfl rfl rfl rfl (i := _) rfl (by omega)) rfl ?_
   refine w_p (zAk isAgg3 hs rfl rfl hxa) rfl ?_
   refine w_p (zAc (v := .int _ _) rfl rfl) rfl ?_
   refine w_p (zAc (v := .int _ _) rfl rfl) rfl ?_
   refine zAf (zAd (hK17 _ _ ?_))
   refine zAg (fun K20 hK19 => ?_)
   refine zAg (fun K22 hK21 => ?_)
   refine zAb (w_p (zAe (v := .int _ _) rfl rfl) rfl ?_)
   refine w_p (zAe (v := .slice _ _ _) rfl rfl) rfl ?_
   refine w_p (zBd underlying43 rfl rfl) rfl ?_
   refine w_p (y_geq rfl rfl rfl rfl) rfl ?_
   refine zAf (zAd (hK21 _ _ ?_))
   refine zAz rfl rfl (fun h23 => ?_) (fun h23 => ?_)
   ·
    try simp only [zS] at h23
    refine zAg (fun K25 hK24 => ?_)
    refine zAb (w_p (zAc (v := _) rfl rfl) rfl ?_)
    refine zAf (zAd (hK24 _ _ ?_))
    refine zA2 (zAm (zA1 (zAm (zAm (zA1 (zAm (zA3 (l := [.tmp 4]) (vs := [_]) rfl ⟨⟨rfl, (rfl : _ = Value.int _ _)⟩, trivial⟩ ?_)))))))
    first
      | exact ⟨⟨_, rfl, cmp_here hpre hia2 hib2 (by assumption)⟩, hs⟩
      | exact ⟨⟨_, rfl, by rw [zCz hpre hia (by omega)]; rfl⟩, hs⟩
      | exact ⟨⟨_, rfl, by rw [zCd hpre (by omega) (by omega)]; rfl⟩, hs⟩
   try simp only [zS] at h23
   refine zAx (zAd (hK19 _ _ ?_))
   refine zAg (fun K27 hK26 => ?_)
   have hib2 : i < b.length := by omega
   obtain ⟨bb, ob, rfl, hxb⟩ := zC1 hb hib2
   refine zAb (w_p (zAe (v := .slice _ _ _) rfl rfl) rfl ?_)
   refine w_p (zAe (v := .int _ _) rfl rfl) rfl ?_
   refine w_p (zA7 underlying43 sizeOf3 rfl rfl rfl rfl (i := _) rfl (by omega)) rfl ?_
   refine w_p (zAk isAgg3 hs rfl rfl hxb) rfl ?_
   refine w_p (zAc (v := .int _ _) rfl rfl) rfl ?_
   refine zAf (zAd (hK26 _ _ ?_))
   refine zAg (fun K29 hK28 => ?_)
   refine zAb (w_p (zAe (v := .int _ _) rfl rfl) rfl ?_)
   refine w_p (zAe (v := .int _ _) rfl rfl) rfl ?_
   refine zAt zAa call108 rfl rfl rfl rfl (c108 _ _ hs) ?_
   rintro _ w31 ⟨rfl, hs32⟩
   refine w_p (zAc (v := .int _ _) rfl rfl) rfl ?_
   refine zAf (zAd (hK28 _ _ ?_))
   refine zAg (fun K34 hK33 => ?_)
   refine zAb (w_p (zAe (v := .int _ _) rfl rfl) rfl ?_)
   refine w_p (zCc rfl rfl rfl rfl) rfl ?_
   refine zAf (zAd (hK33 _ _ ?_))
   refine zAz rfl rfl (fun h35 => ?_) (fun h35 => ?_)
   ·
    try simp only [zS] at h35
    refine zAg (fun K37 hK36 => ?_)
    refine zAb (w_p (zAe (v := .int _ _) rfl rfl) rfl ?_)
    refine w_p (zAc (v := .int _ _) rfl rfl) rfl ?_
    refine zAf (zAd (hK36 _ _ ?_))
    refine zA2 (zA1 (zAm (zAm (zA1 (zAm (zA3 (l := [.tmp 4]) (vs := [_]) rfl ⟨⟨rfl, (rfl : _ = Value.int _ _)⟩, trivial⟩ ?_))))))
    first
      | exact ⟨⟨_, rfl, cmp_here hpre hia2 hib2 (by assumption)⟩, hs32⟩
      | exact ⟨⟨_, rfl, by rw [zCz hpre hia (by omega)]; rfl⟩, hs32⟩
      | exact ⟨⟨_, rfl, by rw [zCd hpre (by omega) (by omega)]; rfl⟩, hs32⟩
   try simp only [zS] at h35
   refine zAx (zAl (zAd (hK15 _ _ ?_)))
   refine zAb (w_p (zBf rfl rfl rfl rfl (by omega) (by omega)) rfl ?_)
   refine w_p (zAe (v := .int _ _) rfl rfl) rfl ?_
   refine zAf (zAd (hN7 _ _ (Nx.intro (a.length - (i + 1)) (by omega) (by repeat (first | exact zAv | refine zAu rfl ?_ | refine zAs rfl ?_ _ | refine zAr rfl ?_)) ?_)))
   exact ⟨i + 1, rfl, by omega, by omega, rfl, take_snoc_eq hpre (by omega) (by omega) (cmp_zero (by assumption)), hs32⟩
  try simp only [zS] at h14
  refine zBl (zAo (zAo (zA4 (zAd (hK3 _ _ ?_)))))
  refine zAg (fun K39 hK38 => ?_)
  refine zAg (fun K41 hK40 => ?_)
  refine zAb (w_p (zAe (v := .slice _ _ _) rfl rfl) rfl ?_)
  refine w_p (zBd underlying43 rfl rfl) rfl ?_
  refine w_p (zAe (v := .slice _ _ _) rfl rfl) rfl ?_
  refine w_p (zBd underlying43 rfl rfl) rfl ?_
  refine w_p (zBt rfl rfl rfl rfl) rfl ?_
  refine zAf (zAd (hK40 _ _ ?_))
  refine zAz rfl rfl (fun h42 => ?_) (fun h42 => ?_)
  ·
   try simp only [zS] at h42
   refine zAg (fun K44 hK43 => ?_)
   refine zAb (w_p (zAc (v := _) rfl rfl) rfl ?_)
   refine zAf (zAd (hK43 _ _ ?_))
   refine zA2 (zAm (zA3 (l := [.tmp 4]) (vs := [_]) rfl ⟨⟨rfl, (rfl : _ = Value.int _ _)⟩, trivial⟩ ?_))
   first
     | exact ⟨⟨_, rfl, cmp_here hpre hia2 hib2 (by assumption)⟩, hs⟩
     | exact ⟨⟨_, rfl, by rw [zCz hpre hia (by omega)]; rfl⟩, hs⟩
     | exact ⟨⟨_, rfl, by rw [zCd hpre (by omega) (by omega)]; rfl⟩, hs⟩
  try simp only [zS] at h42
  refine zAx (zAd (hK38 _ _ ?_))
  refine zAg (fun K46 hK45 => ?_)
  refine zAb (w_p (zAc (v := _) rfl rfl) rfl ?_)
  refine zAf (zAd (hK45 _ _ ?_))
  refine zA2 (zA3 (l := [.tmp 4]) (vs := [_]) rfl ⟨⟨rfl, (rfl : _ = Value.int _ _)⟩, trivial⟩ ?_)
  first
    | exact ⟨⟨_, rfl, cmp_here hpre hia2 hib2 (by assumption)⟩, hs⟩
    | exact ⟨⟨_, rfl, by rw [zCz hpre hia (by omega)]; rfl⟩, hs⟩
    | exact ⟨⟨_, rfl, by rw [zCd hpre (by omega) (by omega)]; rfl⟩, hs⟩

/-- Spans, as rows. -/
abbrev sprow (l : List (List Int)) : List (List Value) := l.map iv
theorem sl_spans {w0 : World} {F : List (Nat × Obj)} {a : Option Addr} {l : List (List Int)} {i : Nat} (h : Sl w0 F a 2 (sprow l)) (hi : i < l.length) :
    ∃ b off, a = some ⟨b, off, none⟩ ∧ l[i].length = 2 ∧ Ats w0 F b (off + i * 2) (iv l[i]) := by
  obtain ⟨b, off, ha, hlen, hat⟩ := h.at (i := i) (row := iv l[i]) (by simp [hi])
  exact ⟨b, off, ha, by simpa using hlen, hat⟩
theorem spans_succ {a b : List (List Int)} {i : Nat} (h : a.take i = b.take i) (ha : i < a.length) (hb : i < b.length) (e : a[i] = b[i]) : a.take (i + 1) = b.take (i + 1) := by
  rw [List.take_succ_eq_append_getElem ha, List.take_succ_eq_append_getElem hb, h, e]
theorem spans_differ {a b : List (List Int)} {i : Nat} (ha : i < a.length) (hb : i < b.length) (e : ¬ a[i] = b[i]) : ¬ a = b := by
  rintro rfl; exact e rfl
theorem spans_same {a b : List (List Int)} {i : Nat} (hl : a.length = b.length) (h : a.take i = b.take i) (hi : a.length ≤ i) : a = b := by
  rwa [List.take_of_length_le hi, List.take_of_length_le (by omega)] at h
theorem c40 {w0 w : World} {F : List (Nat × Obj)} (aa ab : Option Addr) (a b : List (List Int)) (ca cb : Nat) (hla : a.length ≤ 9223372036854775807) (hlb : b.length ≤ 9223372036854775807) (ha : Sl w0 F aa 2 (sprow a)) (hb : Sl w0 F ab 2 (sprow b)) (hs : St w0 w F) :
  Con Tryz.prog 40 [.slice aa a.length ca, .slice ab b.length cb] w fun v w' => v = .bool (decide (a = b)) ∧ St w0 w' F := by
  refine zAw (n := 31) func40 rfl rfl (Nat.le_of_ble_eq_true rfl) ?_
  refine zAg (fun K2 hK1 => ?_)
  refine zAb (w_p (zAc (v := _) rfl rfl) rfl ?_)
  refine zAf (zAd (hK1 _ _ ?_))
  refine zAg (fun K4 hK3 => ?_)
  refine zAb (w_p (zAe (v := .slice _ _ _) rfl rfl) rfl ?_)
  refine w_p (zBd underlying81 rfl rfl) rfl ?_
  refine w_p (zAe (v := .slice _ _ _) rfl rfl) rfl ?_
  refine w_p (zBd underlying81 rfl rfl) rfl ?_
  refine w_p (zBy rfl rfl rfl rfl) rfl ?_
  refine w_p (zAc (v := .bool _) rfl rfl) rfl ?_
  refine zAf (zAd (hK3 _ _ ?_))
  refine zAg (fun K6 hK5 => ?_)
  refine zAg (fun K8 hK7 => ?_)
  refine zAb (w_p (zAc (v := _) rfl rfl) rfl ?_)
  refine zAf (zAd (hK7 _ _ ?_))
  refine zAy ?_
  refine zBp [5, 6, 12, 13, 14, 15, 16, 17, 18, 19, 20, 21, 22, 23, 24, 25, 26, 27, 28, 29] [5, 6] (fun k vs w => ∃ (i : Nat) (s : Bool), vs = [.bool s, .int .i64 i] ∧ i ≤ a.length ∧ k = a.length - i ∧ (s = true → a.length = b.length ∧ a.take i = b.take i) ∧ (s = false → ¬ a = b) ∧ St w0 w F) (a.length) ?_ ?_
  ·
   exact ⟨0, _, rfl, by omega, by omega, (fun h => ⟨(by simp only [decide_eq_true_eq] at h; omega), rfl⟩), (fun h e => by simp only [decide_eq_false_iff_not] at h; rw [e] at h; exact h rfl), hs⟩
  intro k vs μ w11 hI K10 hN9
  obtain ⟨i, s, rfl, hia, rfl, hst, hsf, hs⟩ := hI
  refine zAg (fun K13 hK12 => ?_)
  refine zAg (fun K15 hK14 => ?_)
  refine zAb (w_p (zAe (v := .bool _) rfl rfl) rfl ?_)
  refine w_p (zAe (v := .bool _) rfl rfl) rfl ?_
  refine zBi (fun h16 => ?_) (fun h16 => ?_)
  ·
   try simp only [zS] at h16
   refine w_y rfl rfl rfl (zAe (v := .int _ _) rfl rfl) rfl ?_
   refine w_y rfl rfl rfl (zAe (v := .slice _ _ _) rfl rfl) rfl ?_
   refine w_y rfl rfl rfl (zBd underlying81 rfl rfl) rfl ?_
   refine w_y rfl rfl rfl (zBt rfl rfl rfl rfl) rfl ?_
   refine w_p (zA0 (v := .bool _) rfl rfl rfl rfl) rfl ?_
   refine zAf (zAd (hK14 _ _ ?_))
   refine zAz rfl rfl (fun h17 => ?_) (fun h17 => ?_)
   ·
    try simp only [zS] at h17
    refine zAx (zAd (hK12 _ _ ?_))
    refine zAg (fun K19 hK18 => ?_)
    refine zAy ?_
    have hst2 := hst (by assumption)
    have hi2 : i < a.length := by omega
    have hi3 : i < b.length := by omega
    obtain ⟨ba, oa, rfl, hla2, hxa⟩ := sl_spans ha hi2
    obtain ⟨bb, ob, rfl, hlb2, hxb⟩ := sl_spans hb hi3
    refine zB7 [] [(0, 0), (1, 0), (2, 0), (3, 1), (4, 0), (5, 0), (6, 0), (7, 1), (8, 0), (9, 0)] zBu (by kernel_rfl) hs (fun w20 hs21 => ?_)
    refine zAp rfl zAa rfl (fun _ => (zAe (v := .slice _ _ _) rfl rfl)) ?_
    refine zAp rfl zAa rfl (fun _ => (zAe (v := .int _ _) rfl rfl)) ?_
    refine zAp rfl zAa rfl (fun _ => (zA7 underlying81 sizeOf28 rfl rfl rfl rfl (i := _) rfl (by omega))) ?_
    refine zBa rfl zAa rfl hs21 (fun _ hq => (zA6 (vs := iv _) isAgg28 (fun w => by rw [List.length_map, hla2]; exact sizeOf28 w) hq rfl rfl hxa)) ?_
    refine zAp rfl zAa rfl (fun _ => (zAe (v := .slice _ _ _) rfl rfl)) ?_
    refine zAp rfl zAa rfl (fun _ => (zAe (v := .int _ _) rfl rfl)) ?_
    refine zAp rfl zAa rfl (fun _ => (zA7 underlying81 sizeOf28 rfl rfl rfl rfl (i := _) rfl (by omega))) ?_
    refine zBa rfl zAa rfl hs21 (fun _ hq => (zA6 (vs := iv _) isAgg28 (fun w => by rw [List.length_map, hlb2]; exact sizeOf28 w) hq rfl rfl hxb)) ?_
    refine zAp rfl zAa rfl (fun _ => (y_eqFlat (l := a[i]) (m := b[i]) eqGuardType28 Try_flat28 hla2 hlb2 rfl rfl rfl rfl rfl rfl)) ?_
    refine zAp rfl zAa rfl (fun _ => (zAc (v := .bool _) rfl rfl)) ?_
    refine zB1 ?_
    refine zAl (zAd (hK18 _ _ ?_))
    refine zAb (w_p (zAe (v := .int _ _) rfl rfl) rfl ?_)
    refine w_p (zBf rfl rfl rfl rfl (by omega) (by omega)) rfl ?_
    refine w_p (zAc (v := .int _ _) rfl rfl) rfl ?_
    refine zAf (zAd (hN9 _ _ (Nx.intro (a.length - (i + 1)) (by omega) (by repeat (first | exact zAv | refine zAu rfl ?_ | refine zAs rfl ?_ _ | refine zAr rfl ?_)) ?_)))
    exact ⟨i + 1, _, rfl, by omega, rfl, (fun h => ⟨hst2.1, spans_succ hst2.2 hi2 hi3 (of_decide_eq_true h)⟩), (fun h => spans_differ hi2 hi3 (of_decide_eq_false h)), hs21⟩
   try simp only [zS] at h17
   refine zBl (zAo (zAo (zA4 (zAd (hK5 _ _ ?_)))))
   refine zAg (fun K23 hK22 => ?_)
   refine zAb (w_p (zAe (v := .bool _) rfl rfl) rfl ?_)
   refine w_p (zAc (v := .bool _) rfl rfl) rfl ?_
   refine zAf (zAd (hK22 _ _ ?_))
   refine zA2 (zA3 (l := [.tmp 4]) (vs := [_]) rfl ⟨⟨rfl, (rfl : _ = Value.bool _)⟩, trivial⟩ ?_)
   first
     | (refine ⟨congrArg Value.bool ?_, hs⟩; rw [show s = true from by assumption]; symm; exact decide_eq_true (spans_same (hst (by assumption)).1 (hst (by assumption)).2 (by omega)))
     | (refine ⟨congrArg Value.bool ?_, hs⟩; rw [show s = false from by assumption]; symm; exact decide_eq_false (hsf (by assumption)))
  try simp only [zS] at h16
  refine zAi rfl rfl rfl ?_
  refine zAi rfl rfl rfl ?_
  refine zAi rfl rfl rfl ?_
  refine zAi rfl rfl rfl ?_
  refine w_p (zBb (v := _) rfl rfl rfl rfl) rfl ?_
  refine zAf (zAd (hK14 _ _ ?_))
  refine zB0 rfl rfl ?_
  refine zBl (zAo (zAo (zA4 (zAd (hK5 _ _ ?_)))))
  refine zAg (fun K25 hK24 => ?_)
  refine zAb (w_p (zAe (v := .bool _) rfl rfl) rfl ?_)
  refine w_p (zAc (v := .bool _) rfl rfl) rfl ?_
  refine zAf (zAd (hK24 _ _ ?_))
  refine zA2 (zA3 (l := [.tmp 4]) (vs := [_]) rfl ⟨⟨rfl, (rfl : _ = Value.bool _)⟩, trivial⟩ ?_)
  first
    | (refine ⟨congrArg Value.bool ?_, hs⟩; rw [show s = true from by assumption]; symm; exact decide_eq_true (spans_same (hst (by assumption)).1 (hst (by assumption)).2 (by omega)))
    | (refine ⟨congrArg Value.bool ?_, hs⟩; rw [show s = false from by assumption]; symm; exact decide_eq_false (hsf (by assumption)))

end Go.Proofs.Cb
set_option maxRecDepth 20000
namespace Go.Proofs.Cb
open Go.Proofs.Tryz
open Go.Rt Go.Rt.Ca
attribute [local irreducible] WL WC Con Yd At Ats Sl Agree DW
theorem Try_CE_fb1  (w : World) : (Instr.buildSlice 29 0 [].toArray).run Tryz.prog w = .ok (.slice (some ⟨w.heap.size, 0, none⟩) 0 0) (w.alloc (Go.Rt.blk 48 [])) := by kernel_rfl
theorem Try_info48 : Tryz.prog.info? 48 = some Tryz.t48 := by kernel_rfl
theorem Try_CE_fb3 (x0 : ByteArray) (w : World) : (Instr.buildSlice 54 1 [(0, .string x0)].toArray).run Tryz.prog w = .ok (.slice (some ⟨w.heap.size, 0, none⟩) 1 1) (w.alloc (Go.Rt.blk 9 [.string x0])) := by kernel_rfl
theorem Try_info9 : Tryz.prog.info? 9 = some Tryz.t9 := by kernel_rfl
theorem rows_one (l : List Farm) : ∀ row ∈ rows l, ∀ u ∈ row, u.oneCell' = true := by
  intro row hr u hu
  obtain ⟨f, _, rfl⟩ := List.mem_map.1 hr
  simp only [Farm.cells, List.mem_cons, List.not_mem_nil, or_false] at hu
  rcases hu with rfl | rfl | rfl | rfl | rfl | rfl <;> rfl
theorem c75 {w0 w : World} {F : List (Nat × Obj)} (a : Option Addr) (c : Nat) (l : List Farm) (hl3 : l.length ≤ 1000000) (hc : l.length ≤ c) (ha : Sl w0 F a 6 (rows l)) (hs : St w0 w F) :
  Con Tryz.prog 75 [.slice a l.length c] w fun v w' => ∃ B', Rt.Own v 48 6 l.length (rows l).flatten B' ∧ St w0 w' (B' ++ F) := by
  refine zAw (n := 8) func75 rfl rfl (Nat.le_of_ble_eq_true rfl) ?_
  refine zAg (fun K2 hK1 => ?_)
  refine zAb (w_p (zAc (v := _) rfl rfl) rfl ?_)
  refine zAf (zAd (hK1 _ _ ?_))
  refine zAg (fun K4 hK3 => ?_)
  refine zAg (fun K6 hK5 => ?_)
  refine zAb (w_p (zAe (v := .slice _ _ _) rfl rfl) rfl ?_)
  refine w_p (y_sliceNil underlying29 rfl rfl rfl rfl) rfl ?_
  refine zAf (zAd (hK5 _ _ ?_))
  refine zAz rfl rfl (fun h7 => ?_) (fun h7 => ?_)
  ·
   try simp only [zS] at h7
   refine zAg (fun K9 hK8 => ?_)
   refine zAb (w_p (zAc (v := _) rfl rfl) rfl ?_)
   refine zAf (zAd (hK8 _ _ ?_))
   refine zA2 (zAm (zA3 (l := [.tmp 2]) (vs := [_]) rfl ⟨⟨rfl, show _ = (.slice _ _ _ : Value) from rfl⟩, trivial⟩ ?_))
   have hr := sl_none (L := F) (w0 := w0) (by have : a = none := (by simpa using ‹a.isNone = true›); subst this; exact ha)
   have hl0 : l = [] := by simpa [rows] using hr
   subst hl0
   exact ⟨[], own_nil 48 6, hs⟩
  try simp only [zS] at h7
  refine zAx (zAd (hK3 _ _ ?_))
  refine zAg (fun K11 hK10 => ?_)
  refine zAb (zBh (ps := []) (pv := []) (cs := []) zAa rfl rfl (fun w => Try_CE_fb1  w) hs (fun b12 w13 hs14 => ?_))
  refine w_p (zAe (v := .slice _ _ _) rfl rfl) rfl ?_
  refine zCw (X := ([])) (B := [_]) (rows := rows l) (sz := 6) (bytes := 56) zAa underlying29 Try_info48 rfl rfl rfl rfl rfl rfl rfl rfl rfl hs14 own_made ha.cons (by simp [rows]) (fun h => by subst h; simp at h7) (rows_one l) (by simp only [maxLen]; omega) (by omega) (fun v15 w16 B17 ho18 hs19 => ?_)
  replace hs19 := (show St _ _ (B17 ++ (F)) from hs19)
  refine w_p (zAc (v := v15) rfl rfl) rfl ?_
  refine zAf (zAd (hK10 _ _ ?_))
  refine zA2 (zA3 (l := [.tmp 2]) (vs := [_]) rfl ⟨⟨rfl, show _ = (v15 : Value) from rfl⟩, trivial⟩ ?_)
  rw [Nat.zero_add, List.nil_append] at ho18
  exact ⟨_, ho18, hs19⟩

theorem ends_cases (a b lo hi : Int) : (ends a b lo hi = 7 ∧ (out lo hi a || out lo hi b) = true) ∨ (ends a b lo hi = 2 ∧ (out lo hi a || out lo hi b) = false ∧ b < a) ∨ (ends a b lo hi = 0 ∧ (out lo hi a || out lo hi b) = false ∧ ¬ b < a) := by
  unfold ends
  cases h : (out lo hi a || out lo hi b)
  · by_cases h2 : b < a
    · exact .inr (.inl ⟨by simp [h2], rfl, h2⟩)
    · exact .inr (.inr ⟨by simp [h2], rfl, h2⟩)
  · exact .inl ⟨rfl, rfl⟩
theorem out_iff (lo hi n : Int) : out lo hi n = false ↔ lo ≤ n ∧ n ≤ hi := by unfold out; rw [Bool.or_eq_false_iff]; simp
theorem chk_no1 (p : Port) (h : ¬ (1 ≤ p.hold ∧ p.hold ≤ 200) ∨ ends p.clo p.chi 0 10 = 7) : check p = (1, 0, 7) := by
  unfold check
  rw [if_pos]
  rw [Bool.or_eq_true]
  rcases h with h | h
  · left
    cases ho : out 1 200 p.hold
    · exact absurd ((out_iff _ _ _).1 ho) h
    · rfl
  · rcases ends_cases p.clo p.chi 0 10 with ⟨_, h2⟩ | ⟨h1, _⟩ | ⟨h1, _⟩
    · exact .inr h2
    · omega
    · omega
theorem chk_no2 (p : Port) (h : 1 ≤ p.hold ∧ p.hold ≤ 200) (h1 : ends p.clo p.chi 0 10 ≠ 7) (h2 : ends p.clo p.chi 0 10 ≠ 0) : check p = (1, 0, ends p.clo p.chi 0 10) := by
  unfold check
  rcases ends_cases p.clo p.chi 0 10 with ⟨h3, _⟩ | ⟨h3, h4, h5⟩ | ⟨h3, _⟩
  · exact absurd h3 h1
  · rw [(out_iff _ _ _).2 h, h4, h3, if_neg (by simp), if_pos h5]
  · exact absurd h3 h2
theorem chk_go (p : Port) (h : 1 ≤ p.hold ∧ p.hold ≤ 200) (h2 : ends p.clo p.chi 0 10 = 0) : check p = if 3 < p.farms.length then (2, 0, 3) else farmsErr [] 0 p.farms := by
  unfold check
  rcases ends_cases p.clo p.chi 0 10 with ⟨h3, _⟩ | ⟨h3, h4, h5⟩ | ⟨h3, h4, h5⟩
  · omega
  · omega
  · rw [(out_iff _ _ _).2 h, h4, if_neg (by simp), if_neg h5]
theorem chk_no3 (p : Port) (h : 1 ≤ p.hold ∧ p.hold ≤ 200) (h2 : ends p.clo p.chi 0 10 = 0) (h3 : 3 < p.farms.length) : check p = (2, 0, 3) := by rw [chk_go p h h2, if_pos h3]
theorem chk_ok (p : Port) (h : 1 ≤ p.hold ∧ p.hold ≤ 200) (h2 : ends p.clo p.chi 0 10 = 0) (h3 : p.farms.length ≤ 3) : check p = farmsErr [] 0 p.farms := by rw [chk_go p h h2, if_neg (by omega)]
theorem zC6 (b : List ByteArray) (f : Farm) : fErr b f = if (if nmOk f.name = false then (6 : Int) else if has b f.name then 5 else 0) = 0 then farmErr f else (if nmOk f.name = false then 6 else if has b f.name then 5 else 0) := by
  unfold fErr
  cases nmOk f.name <;> cases has b f.name <;> simp
theorem names_snoc {l : List Farm} {i : Nat} (hi : i < l.length) : (names (l.take i)).map Value.string ++ [Value.string l[i].name] = (names (l.take (i + 1))).map Value.string := by
  rw [List.take_succ_eq_append_getElem hi]; simp only [names, List.map_append, List.map_cons, List.map_nil]
theorem names_len {l : List Farm} {i : Nat} (hi : i ≤ l.length) : (names (l.take i)).length = i := by simp [names]; omega
theorem c5 {w0 w : World} {F : List (Nat × Obj)} (p : Port) (a : Option Addr) (c : Nat) (hl3 : p.farms.length ≤ 9223372036854775807) (hc : p.farms.length ≤ c) (ha : Sl w0 F a 6 (rows p.farms)) (hnm : ∀ f ∈ p.farms, f.name.size ≤ 9223372036854775807) (hs : St w0 w F) :
  Con Tryz.prog 5 [.agg (p.cells a c).toArray] w fun v w' => v = .tuple #[.int .i64 (check p).1, .int .i64 (check p).2.1, .int .i64 (check p).2.2] ∧ St w0 w' F := by
  refine zAw (n := 63) func5 rfl rfl (Nat.le_of_ble_eq_true rfl) ?_
  refine zAg (fun K2 hK1 => ?_)
  refine zAb (zB3 (v := .agg #[.int _ _, .int _ _, .int _ _, .slice _ _ _]) (cs := [_, _, _, _]) zAa rfl rfl rfl hs (fun b3 w4 hs5 => ?_))
  refine w_p (zAc (v := _) rfl rfl) rfl ?_
  refine w_p (zAc (v := _) rfl rfl) rfl ?_
  refine w_p (zAc (v := _) rfl rfl) rfl ?_
  refine zAf (zAd (hK1 _ _ ?_))
  refine zAg (fun K7 hK6 => ?_)
  refine zAb (w_p (zAh (o := 1) (i := 1) underlying31 rfl sizeOf28 rfl rfl rfl) rfl ?_)
  refine w_p (zA6 (vs := [_, _]) isAgg28 sizeOf28 hs5 rfl rfl (zAj (i := 0) (vs := [_, _]) rfl rfl)) rfl ?_
  refine zAt zAa call18 rfl rfl rfl rfl (c18 _ _ _ _ hs5) ?_
  rintro _ w9 ⟨rfl, hs10⟩
  refine w_p (zAc (v := .int _ _) rfl rfl) rfl ?_
  refine zAf (zAd (hK6 _ _ ?_))
  refine zAg (fun K12 hK11 => ?_)
  refine zAg (fun K14 hK13 => ?_)
  refine zAb (w_p (zAh (o := 0) (i := 0) underlying31 rfl sizeOf3 rfl rfl rfl) rfl ?_)
  refine w_p (zAk isAgg3 hs10 rfl rfl (zAj (i := 0) (vs := [_]) rfl rfl)) rfl ?_
  refine zAt zAa call12 rfl rfl rfl rfl (c12 _ _ _ hs10) ?_
  rintro _ w16 ⟨rfl, hs17⟩
  refine w_p (zDc rfl rfl) rfl ?_
  refine w_p (zAe (v := .bool _) rfl rfl) rfl ?_
  refine zBi (fun h18 => ?_) (fun h18 => ?_)
  ·
   try simp only [zS] at h18
   refine zAi rfl rfl rfl ?_
   refine zAi rfl rfl rfl ?_
   refine w_p (zA0 (v := _) rfl rfl rfl rfl) rfl ?_
   refine zAf (zAd (hK13 _ _ ?_))
   refine zCg rfl rfl ?_
   refine zAg (fun K20 hK19 => ?_)
   refine zAb (w_p (zAc (v := _) rfl rfl) rfl ?_)
   refine w_p (zAc (v := _) rfl rfl) rfl ?_
   refine w_p (zAc (v := _) rfl rfl) rfl ?_
   refine zAf (zAd (hK19 _ _ ?_))
   refine zA2 (zAm (zA3 (l := [.tmp 2, .tmp 3, .tmp 4]) (vs := [_, _, _]) rfl ⟨⟨rfl, (rfl : _ = Value.int _ _)⟩, ⟨rfl, (rfl : _ = Value.int _ _)⟩, ⟨rfl, (rfl : _ = Value.int _ _)⟩, trivial⟩ ?_))
   first
     | exact ⟨tup3 (hinv.trans (zCf (by omega) _)), hs17.tail.drop⟩
     | exact ⟨tup3 (chk_no1 p (by omega)), hs17.tail⟩
     | exact ⟨tup3 (chk_no2 p (by assumption) (by assumption) (by assumption)), hs17.tail⟩
     | exact ⟨tup3 (chk_no3 p (by omega) (by omega) (by omega)), hs17.tail⟩
     | contradiction
     | (refine ⟨tup3 (hinv.trans ?_), hs17.tail.tail.drop⟩; have hE := zC6 (names (p.farms.take i)) p.farms[i]; rw [if_neg (by assumption)] at hE; rw [zBm hi2 (by rw [hE]; assumption), hE])
     | (refine ⟨tup3 (hinv.trans ?_), hs17.tail.tail.drop⟩; have hE := zC6 (names (p.farms.take i)) p.farms[i]; rw [if_pos (by assumption)] at hE; rw [zBm hi2 (by rw [hE]; assumption), hE])
  try simp only [zS] at h18
  refine w_y rfl rfl rfl (zAe (v := .int _ _) rfl rfl) rfl ?_
  refine w_y rfl rfl rfl (zBy rfl rfl rfl rfl) rfl ?_
  refine w_p (zBb (v := .bool _) rfl rfl rfl rfl) rfl ?_
  refine zAf (zAd (hK13 _ _ ?_))
  refine zAz rfl rfl (fun h21 => ?_) (fun h21 => ?_)
  ·
   try simp only [zS] at h21
   refine zAg (fun K23 hK22 => ?_)
   refine zAb (w_p (zAc (v := _) rfl rfl) rfl ?_)
   refine w_p (zAc (v := _) rfl rfl) rfl ?_
   refine w_p (zAc (v := _) rfl rfl) rfl ?_
   refine zAf (zAd (hK22 _ _ ?_))
   refine zA2 (zAm (zA3 (l := [.tmp 2, .tmp 3, .tmp 4]) (vs := [_, _, _]) rfl ⟨⟨rfl, (rfl : _ = Value.int _ _)⟩, ⟨rfl, (rfl : _ = Value.int _ _)⟩, ⟨rfl, (rfl : _ = Value.int _ _)⟩, trivial⟩ ?_))
   first
     | exact ⟨tup3 (hinv.trans (zCf (by omega) _)), hs17.tail.drop⟩
     | exact ⟨tup3 (chk_no1 p (by omega)), hs17.tail⟩
     | exact ⟨tup3 (chk_no2 p (by assumption) (by assumption) (by assumption)), hs17.tail⟩
     | exact ⟨tup3 (chk_no3 p (by omega) (by omega) (by omega)), hs17.tail⟩
     | contradiction
     | (refine ⟨tup3 (hinv.trans ?_), hs17.tail.tail.drop⟩; have hE := zC6 (names (p.farms.take i)) p.farms[i]; rw [if_neg (by assumption)] at hE; rw [zBm hi2 (by rw [hE]; assumption), hE])
     | (refine ⟨tup3 (hinv.trans ?_), hs17.tail.tail.drop⟩; have hE := zC6 (names (p.farms.take i)) p.farms[i]; rw [if_pos (by assumption)] at hE; rw [zBm hi2 (by rw [hE]; assumption), hE])
  try simp only [zS] at h21
  refine zAx (zAd (hK11 _ _ ?_))
  refine zAg (fun K25 hK24 => ?_)
  refine zAg (fun K27 hK26 => ?_)
  refine zAb (w_p (zAe (v := .int _ _) rfl rfl) rfl ?_)
  refine w_p (zCc rfl rfl rfl rfl) rfl ?_
  refine zAf (zAd (hK26 _ _ ?_))
  refine zAz rfl rfl (fun h28 => ?_) (fun h28 => ?_)
  ·
   try simp only [zS] at h28
   refine zAg (fun K30 hK29 => ?_)
   refine zAb (w_p (zAe (v := .int _ _) rfl rfl) rfl ?_)
   refine w_p (zAc (v := _) rfl rfl) rfl ?_
   refine w_p (zAc (v := _) rfl rfl) rfl ?_
   refine w_p (zAc (v := .int _ _) rfl rfl) rfl ?_
   refine zAf (zAd (hK29 _ _ ?_))
   refine zA2 (zAm (zA3 (l := [.tmp 2, .tmp 3, .tmp 4]) (vs := [_, _, _]) rfl ⟨⟨rfl, (rfl : _ = Value.int _ _)⟩, ⟨rfl, (rfl : _ = Value.int _ _)⟩, ⟨rfl, (rfl : _ = Value.int _ _)⟩, trivial⟩ ?_))
   first
     | exact ⟨tup3 (hinv.trans (zCf (by omega) _)), hs17.tail.drop⟩
     | exact ⟨tup3 (chk_no1 p (by omega)), hs17.tail⟩
     | exact ⟨tup3 (chk_no2 p (by assumption) (by assumption) (by assumption)), hs17.tail⟩
     | exact ⟨tup3 (chk_no3 p (by omega) (by omega) (by omega)), hs17.tail⟩
     | contradiction
     | (refine ⟨tup3 (hinv.trans ?_), hs17.tail.tail.drop⟩; have hE := zC6 (names (p.farms.take i)) p.farms[i]; rw [if_neg (by assumption)] at hE; rw [zBm hi2 (by rw [hE]; assumption), hE])
     | (refine ⟨tup3 (hinv.trans ?_), hs17.tail.tail.drop⟩; have hE := zC6 (names (p.farms.take i)) p.farms[i]; rw [if_pos (by assumption)] at hE; rw [zBm hi2 (by rw [hE]; assumption), hE])
  try simp only [zS] at h28
  refine zAx (zAd (hK24 _ _ ?_))
  refine zAg (fun K32 hK31 => ?_)
  refine zAg (fun K34 hK33 => ?_)
  refine zAb (w_p (zAh (o := 3) (i := 2) underlying31 rfl sizeOf29 rfl rfl rfl) rfl ?_)
  refine w_p (zAk isAgg29 hs17 rfl rfl (zAj (i := 0) (vs := [_]) rfl rfl)) rfl ?_
  refine w_p (zBd underlying29 rfl rfl) rfl ?_
  refine w_p (y_gtr rfl rfl rfl rfl) rfl ?_
  refine zAf (zAd (hK33 _ _ ?_))
  refine zAz rfl rfl (fun h35 => ?_) (fun h35 => ?_)
  ·
   try simp only [zS] at h35
   refine zAg (fun K37 hK36 => ?_)
   refine zAb (w_p (zAc (v := _) rfl rfl) rfl ?_)
   refine w_p (zAc (v := _) rfl rfl) rfl ?_
   refine w_p (zAc (v := _) rfl rfl) rfl ?_
   refine zAf (zAd (hK36 _ _ ?_))
   refine zA2 (zAm (zA3 (l := [.tmp 2, .tmp 3, .tmp 4]) (vs := [_, _, _]) rfl ⟨⟨rfl, (rfl : _ = Value.int _ _)⟩, ⟨rfl, (rfl : _ = Value.int _ _)⟩, ⟨rfl, (rfl : _ = Value.int _ _)⟩, trivial⟩ ?_))
   first
     | exact ⟨tup3 (hinv.trans (zCf (by omega) _)), hs17.tail.drop⟩
     | exact ⟨tup3 (chk_no1 p (by omega)), hs17.tail⟩
     | exact ⟨tup3 (chk_no2 p (by assumption) (by assumption) (by assumption)), hs17.tail⟩
     | exact ⟨tup3 (chk_no3 p (by omega) (by omega) (by omega)), hs17.tail⟩
     | contradiction
     | (refine ⟨tup3 (hinv.trans ?_), hs17.tail.tail.drop⟩; have hE := zC6 (names (p.farms.take i)) p.farms[i]; rw [if_neg (by assumption)] at hE; rw [zBm hi2 (by rw [hE]; assumption), hE])
     | (refine ⟨tup3 (hinv.trans ?_), hs17.tail.tail.drop⟩; have hE := zC6 (names (p.farms.take i)) p.farms[i]; rw [if_pos (by assumption)] at hE; rw [zBm hi2 (by rw [hE]; assumption), hE])
  try simp only [zS] at h35
  refine zAx (zAd (hK31 _ _ ?_))
  refine zAg (fun K39 hK38 => ?_)
  refine zAb (w_p (zAc (v := _) rfl rfl) rfl ?_)
  refine zAf (zAd (hK38 _ _ ?_))
  refine zAg (fun K41 hK40 => ?_)
  refine zAg (fun K43 hK42 => ?_)
  refine zAb (w_p (zAc (v := _) rfl rfl) rfl ?_)
  refine zAf (zAd (hK42 _ _ ?_))
  refine zAy ?_
  refine zBp [2, 3, 4, 6, 7, 8, 27, 28, 29, 30, 31, 32, 33, 34, 35, 36, 37, 38, 39, 40, 41, 42, 43, 44, 45, 46, 47, 48, 49, 50, 51, 52, 53, 54, 55, 56, 57, 58, 59, 60, 61, 62] [6, 7] (fun k vs w => ∃ (i : Nat) (v : Value) (B : List (Nat × Obj)), vs = [v, .int .i64 i] ∧ i ≤ p.farms.length ∧ k = p.farms.length - i ∧ check p = farmsErr (names (p.farms.take i)) (i : Nat) (p.farms.drop i) ∧ Rt.Own v 9 1 i ((names (p.farms.take i)).map Value.string) B ∧ St w0 w ((b3, blk 31 (p.cells a c)) :: (B ++ F))) (p.farms.length) ?_ ?_
  ·
   exact ⟨0, _, [], rfl, by omega, by omega, (chk_ok p (by omega) (by omega) (by omega)), own_nil 9 1, hs17⟩
  intro k vs μ w46 hI K45 hN44
  obtain ⟨i, v, B, rfl, hia, rfl, hinv, hown, hs⟩ := hI
  refine zAg (fun K48 hK47 => ?_)
  refine zAg (fun K50 hK49 => ?_)
  refine zAb (w_p (zAe (v := .int _ _) rfl rfl) rfl ?_)
  refine w_p (zAh (o := 3) (i := 2) underlying31 rfl sizeOf29 rfl rfl rfl) rfl ?_
  refine w_p (zAk isAgg29 hs rfl rfl (zAj (i := 0) (vs := [_]) rfl rfl)) rfl ?_
  refine w_p (zBd underlying29 rfl rfl) rfl ?_
  refine w_p (zBt rfl rfl rfl rfl) rfl ?_
  refine zAf (zAd (hK49 _ _ ?_))
  refine zAz rfl rfl (fun h51 => ?_) (fun h51 => ?_)
  ·
   try simp only [zS] at h51
   refine zAx (zAd (hK47 _ _ ?_))
   refine zAg (fun K53 hK52 => ?_)
   refine zAy ?_
   refine zAg (fun K55 hK54 => ?_)
   have hi2 : i < p.farms.length := by omega
   have hn2 := names_len hia
   obtain ⟨bx, ox, rfl, hx⟩ := sl_farm ha hi2
   obtain ⟨an, cn, rfl, hsn⟩ := own_sl_map (w0 := w0) hown hn2 F
   have hnl : (names (p.farms.take i)).length ≤ 1000000 := by omega
   refine zAb (w_p (zAh (o := 3) (i := 2) underlying31 rfl sizeOf29 rfl rfl rfl) rfl ?_)
   refine w_p (zAk isAgg29 hs rfl rfl (zAj (i := 0) (vs := [_]) rfl rfl)) rfl ?_
   refine w_p (zAe (v := .int _ _) rfl rfl) rfl ?_
   refine w_p (zA7 underlying29 sizeOf48 rfl rfl rfl rfl (i := _) rfl (by omega)) rfl ?_
   refine w_p (zAh (o := 0) (i := 0) underlying48 rfl sizeOf9 rfl rfl rfl) rfl ?_
   refine w_p (zAk isAgg9 hs.tail.drop rfl rfl (show Ats _ _ _ _ [_] from Ats.part hx 0 1)) rfl ?_
   refine w_p (zAe (v := .slice _ _ _) rfl rfl) rfl ?_
   refine zAt zAa call14 rfl rfl rfl rfl (c14 _ _ _ _ (hnm _ (List.getElem_mem hi2)) (by omega) hsn.cons hs) ?_
   rintro _ w57 ⟨rfl, hs58⟩
   refine w_p (zAc (v := .int _ _) rfl rfl) rfl ?_
   refine zAf (zAd (hK54 _ _ ?_))
   refine zAg (fun K60 hK59 => ?_)
   refine zAb (w_p (zAe (v := .slice _ _ _) rfl rfl) rfl ?_)
   refine w_p (zAh (o := 3) (i := 2) underlying31 rfl sizeOf29 rfl rfl rfl) rfl ?_
   refine w_p (zAk isAgg29 hs58 rfl rfl (zAj (i := 0) (vs := [_]) rfl rfl)) rfl ?_
   refine w_p (zAe (v := .int _ _) rfl rfl) rfl ?_
   refine w_p (zA7 underlying29 sizeOf48 rfl rfl rfl rfl (i := _) rfl (by omega)) rfl ?_
   refine w_p (zAh (o := 0) (i := 0) underlying48 rfl sizeOf9 rfl rfl rfl) rfl ?_
   refine w_p (zAk isAgg9 hs58.tail.drop rfl rfl (show Ats _ _ _ _ [_] from Ats.part hx 0 1)) rfl ?_
   refine zBh (ps := [(0, _)]) (pv := [(0, .string _)]) (cs := [_]) zAa rfl rfl (fun w => Try_CE_fb3 _ w) hs58 (fun b61 w62 hs63 => ?_)
   refine zCw (X := (_ :: _ :: [])) (B := B) (rows := [[_]]) (sz := 1) (bytes := 16) zAa underlying54 Try_info9 rfl rfl rfl rfl rfl rfl rfl rfl rfl hs63 hown (zBr (i := 0) rfl (by simp) rfl) rfl (by simp) (by simp [Value.oneCell']) (by simp only [maxLen]; omega) (by omega) (fun v64 w65 B66 ho67 hs68 => ?_)
   replace hs68 := (show St _ _ (_ :: _ :: B66 ++ (F)) from hs68)
   refine w_p (zAc (v := v64) rfl rfl) rfl ?_
   refine zAf (zAd (hK59 _ _ ?_))
   refine zAg (fun K70 hK69 => ?_)
   refine zAg (fun K72 hK71 => ?_)
   refine zAb (w_p (zAe (v := .int _ _) rfl rfl) rfl ?_)
   refine w_p (zBy rfl rfl rfl rfl) rfl ?_
   refine zAf (zAd (hK71 _ _ ?_))
   refine zAz rfl rfl (fun h73 => ?_) (fun h73 => ?_)
   ·
    try simp only [zS] at h73
    refine zAb (w_p (zAh (o := 3) (i := 2) underlying31 rfl sizeOf29 rfl rfl rfl) rfl ?_)
    refine w_p (zAk isAgg29 hs68 rfl rfl (zAj (i := 1) (vs := [_]) rfl rfl)) rfl ?_
    refine w_p (zAe (v := .int _ _) rfl rfl) rfl ?_
    refine w_p (zA7 underlying29 sizeOf48 rfl rfl rfl rfl (i := _) rfl (by omega)) rfl ?_
    refine w_p (zA6 (vs := [_, _, _, _, _, _]) isAgg48 sizeOf48 hs68.tail.tail.drop rfl rfl hx) rfl ?_
    refine zAt zAa call19 rfl rfl rfl rfl (c19 _ hs68) ?_
    rintro _ w75 ⟨rfl, hs76⟩
    refine w_p (zAc (v := .int _ _) rfl rfl) rfl ?_
    refine zAf (zAd (hK69 _ _ ?_))
    refine zAg (fun K78 hK77 => ?_)
    refine zAb (w_p (zAe (v := .int _ _) rfl rfl) rfl ?_)
    refine w_p (zCc rfl rfl rfl rfl) rfl ?_
    refine zAf (zAd (hK77 _ _ ?_))
    refine zAz rfl rfl (fun h79 => ?_) (fun h79 => ?_)
    ·
     try simp only [zS] at h79
     refine zAg (fun K81 hK80 => ?_)
     refine zAb (w_p (zAe (v := .int _ _) rfl rfl) rfl ?_)
     refine w_p (zAe (v := .int _ _) rfl rfl) rfl ?_
     refine w_p (zAc (v := _) rfl rfl) rfl ?_
     refine w_p (zAc (v := .int _ _) rfl rfl) rfl ?_
     refine w_p (zAc (v := .int _ _) rfl rfl) rfl ?_
     refine zAf (zAd (hK80 _ _ ?_))
     refine zA2 (zA1 (zAm (zAm (zA1 (zAm (zA3 (l := [.tmp 2, .tmp 3, .tmp 4]) (vs := [_, _, _]) rfl ⟨⟨rfl, (rfl : _ = Value.int _ _)⟩, ⟨rfl, (rfl : _ = Value.int _ _)⟩, ⟨rfl, (rfl : _ = Value.int _ _)⟩, trivial⟩ ?_))))))
     first
       | exact ⟨tup3 (hinv.trans (zCf (by omega) _)), hs76.tail.drop⟩
       | exact ⟨tup3 (chk_no1 p (by omega)), hs76.tail⟩
       | exact ⟨tup3 (chk_no2 p (by assumption) (by assumption) (by assumption)), hs76.tail⟩
       | exact ⟨tup3 (chk_no3 p (by omega) (by omega) (by omega)), hs76.tail⟩
       | contradiction
       | (refine ⟨tup3 (hinv.trans ?_), hs76.tail.tail.drop⟩; have hE := zC6 (names (p.farms.take i)) p.farms[i]; rw [if_neg (by assumption)] at hE; rw [zBm hi2 (by rw [hE]; assumption), hE])
       | (refine ⟨tup3 (hinv.trans ?_), hs76.tail.tail.drop⟩; have hE := zC6 (names (p.farms.take i)) p.farms[i]; rw [if_pos (by assumption)] at hE; rw [zBm hi2 (by rw [hE]; assumption), hE])
    try simp only [zS] at h79
    refine zAx (zAl (zAd (hK52 _ _ ?_)))
    refine zAb (w_p (zAe (v := .int _ _) rfl rfl) rfl ?_)
    refine w_p (zBf rfl rfl rfl rfl (by omega) (by omega)) rfl ?_
    refine w_p (zAc (v := .int _ _) rfl rfl) rfl ?_
    refine zAf (zAd (hN44 _ _ (Nx.intro (p.farms.length - (i + 1)) (by omega) (by repeat (first | exact zAv | refine zAu rfl ?_ | refine zAs rfl ?_ _ | refine zAr rfl ?_)) ?_)))
    first
      | contradiction
      | exact ⟨i + 1, _, _, rfl, by omega, rfl, hinv.trans (farmsErr_step hi2 (by rw [zC6]; first | (rw [if_pos (by assumption)]; assumption) | (rw [if_neg (by assumption)]; assumption))), by rw [← names_snoc hi2]; exact ho67, hs76.tail⟩
   try simp only [zS] at h73
   refine zAx (zAd (hK69 _ _ ?_))
   refine zAg (fun K83 hK82 => ?_)
   refine zAb (w_p (zAe (v := .int _ _) rfl rfl) rfl ?_)
   refine w_p (zCc rfl rfl rfl rfl) rfl ?_
   refine zAf (zAd (hK82 _ _ ?_))
   refine zAz rfl rfl (fun h84 => ?_) (fun h84 => ?_)
   ·
    try simp only [zS] at h84
    refine zAg (fun K86 hK85 => ?_)
    refine zAb (w_p (zAe (v := .int _ _) rfl rfl) rfl ?_)
    refine w_p (zAe (v := .int _ _) rfl rfl) rfl ?_
    refine w_p (zAc (v := _) rfl rfl) rfl ?_
    refine w_p (zAc (v := .int _ _) rfl rfl) rfl ?_
    refine w_p (zAc (v := .int _ _) rfl rfl) rfl ?_
    refine zAf (zAd (hK85 _ _ ?_))
    refine zA2 (zA1 (zAm (zAm (zA1 (zAm (zA3 (l := [.tmp 2, .tmp 3, .tmp 4]) (vs := [_, _, _]) rfl ⟨⟨rfl, (rfl : _ = Value.int _ _)⟩, ⟨rfl, (rfl : _ = Value.int _ _)⟩, ⟨rfl, (rfl : _ = Value.int _ _)⟩, trivial⟩ ?_))))))
    first
      | exact ⟨tup3 (hinv.trans (zCf (by omega) _)), hs68.tail.drop⟩
      | exact ⟨tup3 (chk_no1 p (by omega)), hs68.tail⟩
      | exact ⟨tup3 (chk_no2 p (by assumption) (by assumption) (by assumption)), hs68.tail⟩
      | exact ⟨tup3 (chk_no3 p (by omega) (by omega) (by omega)), hs68.tail⟩
      | contradiction
      | (refine ⟨tup3 (hinv.trans ?_), hs68.tail.tail.drop⟩; have hE := zC6 (names (p.farms.take i)) p.farms[i]; rw [if_neg (by assumption)] at hE; rw [zBm hi2 (by rw [hE]; assumption), hE])
      | (refine ⟨tup3 (hinv.trans ?_), hs68.tail.tail.drop⟩; have hE := zC6 (names (p.farms.take i)) p.farms[i]; rw [if_pos (by assumption)] at hE; rw [zBm hi2 (by rw [hE]; assumption), hE])
   try simp only [zS] at h84
   refine zAx (zAl (zAd (hK52 _ _ ?_)))
   refine zAb (w_p (zAe (v := .int _ _) rfl rfl) rfl ?_)
   refine w_p (zBf rfl rfl rfl rfl (by omega) (by omega)) rfl ?_
   refine w_p (zAc (v := .int _ _) rfl rfl) rfl ?_
   refine zAf (zAd (hN44 _ _ (Nx.intro (p.farms.length - (i + 1)) (by omega) (by repeat (first | exact zAv | refine zAu rfl ?_ | refine zAs rfl ?_ _ | refine zAr rfl ?_)) ?_)))
   first
     | contradiction
     | exact ⟨i + 1, _, _, rfl, by omega, rfl, hinv.trans (farmsErr_step hi2 (by rw [zC6]; first | (rw [if_pos (by assumption)]; assumption) | (rw [if_neg (by assumption)]; assumption))), by rw [← names_snoc hi2]; exact ho67, hs68.tail⟩
  try simp only [zS] at h51
  refine zBl (zAo (zAo (zA4 (zAd (hK40 _ _ ?_)))))
  refine zAg (fun K88 hK87 => ?_)
  refine zAb (w_p (zAc (v := _) rfl rfl) rfl ?_)
  refine w_p (zAc (v := _) rfl rfl) rfl ?_
  refine w_p (zAc (v := _) rfl rfl) rfl ?_
  refine zAf (zAd (hK87 _ _ ?_))
  refine zA2 (zA3 (l := [.tmp 2, .tmp 3, .tmp 4]) (vs := [_, _, _]) rfl ⟨⟨rfl, (rfl : _ = Value.int _ _)⟩, ⟨rfl, (rfl : _ = Value.int _ _)⟩, ⟨rfl, (rfl : _ = Value.int _ _)⟩, trivial⟩ ?_)
  first
    | exact ⟨tup3 (hinv.trans (zCf (by omega) _)), hs.tail.drop⟩
    | exact ⟨tup3 (chk_no1 p (by omega)), hs.tail⟩
    | exact ⟨tup3 (chk_no2 p (by assumption) (by assumption) (by assumption)), hs.tail⟩
    | exact ⟨tup3 (chk_no3 p (by omega) (by omega) (by omega)), hs.tail⟩
    | contradiction
    | (refine ⟨tup3 (hinv.trans ?_), hs.tail.tail.drop⟩; have hE := zC6 (names (p.farms.take i)) p.farms[i]; rw [if_neg (by assumption)] at hE; rw [zBm hi2 (by rw [hE]; assumption), hE])
    | (refine ⟨tup3 (hinv.trans ?_), hs.tail.tail.drop⟩; have hE := zC6 (names (p.farms.take i)) p.farms[i]; rw [if_pos (by assumption)] at hE; rw [zBm hi2 (by rw [hE]; assumption), hE])

end Go.Proofs.Cb
set_option maxRecDepth 20000
namespace Go.Proofs.Cb
open Go.Proofs.Tryz
open Go.Rt Go.Rt.Ca
attribute [local irreducible] WL WC Con Yd At Ats Sl Agree DW
theorem Try_CF_fb3 (x0 : Int) (w : World) : (Instr.buildSlice 43 1 [(0, .int .i64 x0)].toArray).run Tryz.prog w = .ok (.slice (some ⟨w.heap.size, 0, none⟩) 1 1) (w.alloc (Go.Rt.blk 3 [.int .i64 x0])) := by kernel_rfl
theorem fresh_ref {f : Farm} {c day : Int} (hf : f.Ok) (hc : -1 ≤ c) : fresh f c day = (!decide (c = -1) && decide (c + f.notice + f.way ≤ day ∧ day ≤ c + f.notice + f.keep)) := by
  unfold fresh out
  unfold Farm.Ok at hf
  rw [Bool.eq_iff_iff]
  simp
  omega
theorem fresh_pos {f : Farm} {c day : Int} (h : fresh f c day = true) : ¬ c = -1 := by
  unfold fresh at h
  simp at h
  omega
theorem c13 {w0 w : World} {F : List (Nat × Obj)} (f : Farm) (c day : Int) (hf : f.Ok) (hc : -1 ≤ c) (hc2 : c ≤ 100) (hd : -100 ≤ day) (hd2 : day ≤ 100) (hs : St w0 w F) :
  Con Tryz.prog 13 [.agg f.cells.toArray, .int .i64 c, .int .i64 day] w fun v w' => v = .bool (fresh f c day) ∧ St w0 w' F := by
  refine zAw (n := 26) func13 rfl rfl (Nat.le_of_ble_eq_true rfl) ?_
  have hfo := hf
  unfold Farm.Ok at hfo
  refine zAg (fun K2 hK1 => ?_)
  refine zAb (zB3 (v := .agg #[.string _, .int _ _, .int _ _, .int _ _, .int _ _, .int _ _]) (cs := [_, _, _, _, _, _]) zAa rfl rfl rfl hs (fun b3 w4 hs5 => ?_))
  refine w_p (zAc (v := _) rfl rfl) rfl ?_
  refine zAf (zAd (hK1 _ _ ?_))
  refine zAg (fun K7 hK6 => ?_)
  refine zAb (w_p (zAe (v := .int _ _) rfl rfl) rfl ?_)
  refine w_p (zAh (o := 2) (i := 2) underlying48 rfl sizeOf3 rfl rfl rfl) rfl ?_
  refine w_p (zAk isAgg3 hs5 rfl rfl (zAj (i := 0) (vs := [_]) rfl rfl)) rfl ?_
  refine w_p (zBf rfl rfl rfl rfl (by omega) (by omega)) rfl ?_
  refine w_p (zAc (v := .int _ _) rfl rfl) rfl ?_
  refine zAf (zAd (hK6 _ _ ?_))
  refine zAg (fun K9 hK8 => ?_)
  refine zAb (w_p (zAe (v := .int _ _) rfl rfl) rfl ?_)
  refine w_p (zCc rfl rfl rfl rfl) rfl ?_
  refine w_p (zAe (v := .bool _) rfl rfl) rfl ?_
  refine zBi (fun h10 => ?_) (fun h10 => ?_)
  ·
   try simp only [zS] at h10
   refine w_y rfl rfl rfl (zAe (v := .int _ _) rfl rfl) rfl ?_
   refine w_y rfl rfl rfl (zAe (v := .int _ _) rfl rfl) rfl ?_
   refine w_y rfl rfl rfl (zAh (o := 1) (i := 1) underlying48 rfl sizeOf3 rfl rfl rfl) rfl ?_
   refine w_y rfl rfl rfl (zAk isAgg3 hs5 rfl rfl (zAj (i := 0) (vs := [_]) rfl rfl)) rfl ?_
   refine w_y rfl rfl rfl (zBf rfl rfl rfl rfl (by omega) (by omega)) rfl ?_
   refine w_y rfl rfl rfl (zAe (v := .int _ _) rfl rfl) rfl ?_
   refine w_y rfl rfl rfl (zAh (o := 3) (i := 3) underlying48 rfl sizeOf3 rfl rfl rfl) rfl ?_
   refine w_y rfl rfl rfl (zAk isAgg3 hs5 rfl rfl (zAj (i := 0) (vs := [_]) rfl rfl)) rfl ?_
   refine w_y rfl rfl rfl (zBf rfl rfl rfl rfl (by omega) (by omega)) rfl ?_
   refine zAt (zAn rfl rfl rfl) call12 rfl rfl rfl rfl (c12 _ _ _ hs5) ?_
   rintro _ w12 ⟨rfl, hs13⟩
   refine w_p (zA0 (v := .bool _) rfl rfl rfl rfl) rfl ?_
   refine w_p (zAc (v := .bool _) rfl rfl) rfl ?_
   refine zAf (zAd (hK8 _ _ ?_))
   refine zA2 (zA3 (l := [.tmp 6]) (vs := [_]) rfl ⟨⟨rfl, (rfl : _ = Value.bool _)⟩, trivial⟩ ?_)
   exact ⟨congrArg Value.bool (by rw [fresh_ref hf hc]; simp [h10] <;> omega), hs13.tail⟩
  try simp only [zS] at h10
  refine zAi rfl rfl rfl ?_
  refine zAi rfl rfl rfl ?_
  refine zAi rfl rfl rfl ?_
  refine zAi rfl rfl rfl ?_
  refine zAi rfl rfl rfl ?_
  refine zAi rfl rfl rfl ?_
  refine zAi rfl rfl rfl ?_
  refine zAi rfl rfl rfl ?_
  refine zAi rfl rfl rfl ?_
  refine zAi rfl rfl rfl ?_
  refine w_p (zBb (v := _) rfl rfl rfl rfl) rfl ?_
  refine w_p (zAc (v := .bool _) rfl rfl) rfl ?_
  refine zAf (zAd (hK8 _ _ ?_))
  refine zA2 (zA3 (l := [.tmp 6]) (vs := [_]) rfl ⟨⟨rfl, (rfl : _ = Value.bool _)⟩, trivial⟩ ?_)
  exact ⟨congrArg Value.bool (by rw [fresh_ref hf hc]; simp [h10] <;> omega), hs5.tail⟩

theorem c101 {w0 w : World} {F : List (Nat × Obj)} (p : Port) (a : Option Addr) (c m pb : Nat) (hp : Ats w0 F pb 0 [.int .i64 p.hold, .int .i64 p.clo, .int .i64 p.chi, .slice a p.farms.length c, .map (some m)]) (ha : Sl w0 F a 6 (rows p.farms)) (hok : p.Ok) (i : Nat) (hi : i < p.farms.length) (q day : Int) (hq : -100 ≤ q) (hq2 : q ≤ 100) (hd : -100 ≤ day) (hd2 : day ≤ 100) (hs : St w0 w F) :
  Con Tryz.prog 101 [.pointer (some ⟨pb, 0, none⟩), .int .i64 (i : Int), .int .i64 q, .int .i64 day] w fun v w' => v = .bool (fresh p.farms[i] q day) ∧ St w0 w' F := by
  refine zAw (n := 35) func101 rfl rfl (Nat.le_of_ble_eq_true rfl) ?_
  obtain ⟨bx, ox, rfl, hx⟩ := sl_farm ha hi
  have hfo := hok.farm _ (List.getElem_mem hi)
  unfold Farm.Ok at hfo
  refine zAg (fun K2 hK1 => ?_)
  refine zAb (w_p (zAc (v := _) rfl rfl) rfl ?_)
  refine zAf (zAd (hK1 _ _ ?_))
  refine zAg (fun K4 hK3 => ?_)
  refine zAb (w_p (zAe (v := .pointer _) rfl rfl) rfl ?_)
  refine w_p (zBk rfl rfl) rfl ?_
  refine w_p (zAh (o := 0) (i := 0) underlying151 rfl sizeOf31 rfl rfl rfl) rfl ?_
  refine w_p (zAh (o := 3) (i := 2) underlying31 rfl sizeOf29 rfl rfl rfl) rfl ?_
  refine w_p (zAk isAgg29 hs rfl rfl (show Ats _ _ _ _ [_] from Ats.part hp 3 1)) rfl ?_
  refine w_p (zAe (v := .int _ _) rfl rfl) rfl ?_
  refine w_p (zA7 underlying29 sizeOf48 rfl rfl rfl rfl (i := _) rfl (by omega)) rfl ?_
  refine w_p (zA6 (vs := [_, _, _, _, _, _]) isAgg48 sizeOf48 hs rfl rfl hx) rfl ?_
  refine zA9 (cs := [_, _, _, _, _, _]) zAa zeroValue48 rfl hs (fun b5 w6 hs7 => ?_)
  refine zA5 (i := 0) (v := .agg #[.string _, .int _ _, .int _ _, .int _ _, .int _ _, .int _ _]) (vs := [_, _, _, _, _, _]) zAa sizeOf48 rfl rfl rfl rfl rfl (by simp [Value.oneCell']) hs7 rfl (Nat.le_of_ble_eq_true rfl) (fun w8 hs9 => ?_)
  refine zAf (zAd (hK3 _ _ ?_))
  refine zAg (fun K11 hK10 => ?_)
  refine zAb (w_p (zAe (v := .int _ _) rfl rfl) rfl ?_)
  refine w_p (y_geq rfl rfl rfl rfl) rfl ?_
  refine w_p (zAe (v := .bool _) rfl rfl) rfl ?_
  refine zBi (fun h12 => ?_) (fun h12 => ?_)
  ·
   try simp only [zS] at h12
   refine w_y rfl rfl rfl (zAh (o := 1) (i := 1) underlying48 rfl sizeOf3 rfl rfl rfl) rfl ?_
   refine w_y rfl rfl rfl (zAk isAgg3 hs9 rfl rfl (zAj (i := 0) (vs := [_]) rfl rfl)) rfl ?_
   refine w_y rfl rfl rfl (zAh (o := 3) (i := 3) underlying48 rfl sizeOf3 rfl rfl rfl) rfl ?_
   refine w_y rfl rfl rfl (zAk isAgg3 hs9 rfl rfl (zAj (i := 0) (vs := [_]) rfl rfl)) rfl ?_
   refine w_y rfl rfl rfl (zAe (v := .int _ _) rfl rfl) rfl ?_
   refine w_y rfl rfl rfl (zAe (v := .int _ _) rfl rfl) rfl ?_
   refine w_y rfl rfl rfl (y_sub rfl rfl rfl rfl (by omega) (by omega)) rfl ?_
   refine w_y rfl rfl rfl (zAh (o := 2) (i := 2) underlying48 rfl sizeOf3 rfl rfl rfl) rfl ?_
   refine w_y rfl rfl rfl (zAk isAgg3 hs9 rfl rfl (zAj (i := 0) (vs := [_]) rfl rfl)) rfl ?_
   refine w_y rfl rfl rfl (y_sub rfl rfl rfl rfl (by omega) (by omega)) rfl ?_
   refine zBh (ps := [(0, _)]) (pv := [(0, .int _ _)]) (cs := [_]) (zAn rfl rfl rfl) rfl rfl (fun w => Try_CF_fb3 _ w) hs9 (fun b13 w14 hs15 => ?_)
   refine zAt (zAn rfl rfl rfl) call73 rfl rfl rfl rfl (c73 _ _ _ [_] _ (by simp) (zBr (i := 0) (rows := [[_]]) rfl (by simp) rfl) hs15) ?_
   rintro _ w17 ⟨rfl, hs18⟩
   refine w_y rfl rfl rfl (zDc rfl rfl) rfl ?_
   refine w_p (zA0 (v := .bool _) rfl rfl rfl rfl) rfl ?_
   refine w_p (zAc (v := .bool _) rfl rfl) rfl ?_
   refine zAf (zAd (hK10 _ _ ?_))
   refine zA2 (zA3 (l := [.tmp 8]) (vs := [_]) rfl ⟨⟨rfl, (rfl : _ = Value.bool _)⟩, trivial⟩ ?_)
   try simp only [List.any_cons, List.any_nil, Bool.or_false, Bool.or_eq_false_iff] at h12
   exact ⟨congrArg Value.bool (by unfold fresh; rw [Bool.eq_iff_iff]; simp [h12] <;> omega), hs18.tail.tail⟩
  try simp only [zS] at h12
  refine zAi rfl rfl rfl ?_
  refine zAi rfl rfl rfl ?_
  refine zAi rfl rfl rfl ?_
  refine zAi rfl rfl rfl ?_
  refine zAi rfl rfl rfl ?_
  refine zAi rfl rfl rfl ?_
  refine zAi rfl rfl rfl ?_
  refine zAi rfl rfl rfl ?_
  refine zAi rfl rfl rfl ?_
  refine zAi rfl rfl rfl ?_
  refine zAi rfl rfl rfl ?_
  refine zAi rfl rfl rfl ?_
  refine zAi rfl rfl rfl ?_
  refine w_p (zBb (v := _) rfl rfl rfl rfl) rfl ?_
  refine w_p (zAc (v := .bool _) rfl rfl) rfl ?_
  refine zAf (zAd (hK10 _ _ ?_))
  refine zA2 (zA3 (l := [.tmp 8]) (vs := [_]) rfl ⟨⟨rfl, (rfl : _ = Value.bool _)⟩, trivial⟩ ?_)
  try simp only [List.any_cons, List.any_nil, Bool.or_false, Bool.or_eq_false_iff] at h12
  exact ⟨congrArg Value.bool (by unfold fresh; rw [Bool.eq_iff_iff]; simp [h12] <;> omega), hs9.tail⟩

theorem c88 {w0 w : World} {F : List (Nat × Obj)} (p : Port) (a : Option Addr) (c m pb : Nat) (hp : Ats w0 F pb 0 [.int .i64 p.hold, .int .i64 p.clo, .int .i64 p.chi, .slice a p.farms.length c, .map (some m)]) (ha : Sl w0 F a 6 (rows p.farms)) (hok : p.Ok) (l : List Int) (hlen : l.length = 3) (hl1 : ∀ x ∈ l, -1 ≤ x ∧ x ≤ 10) (day : Int) (hd : -100 ≤ day) (hd2 : day ≤ 100) (hs : St w0 w F) :
  Con Tryz.prog 88 [.pointer (some ⟨pb, 0, none⟩), ia l, .int .i64 day] w fun v w' => v = ia (on p.farms l day).ints ∧ St w0 w' F := by
  refine zAw (n := 59) func88 rfl rfl (Nat.le_of_ble_eq_true rfl) ?_
  have hlen3 := hok.len
  refine zAg (fun K2 hK1 => ?_)
  refine zAb (w_boxI (l := _) zAa rfl rfl rfl hs (fun b3 w4 hs5 => ?_))
  refine zA9 (cs := [_, _, _]) zAa zeroValue132 rfl hs5 (fun b6 w7 hs8 => ?_)
  refine zAf (zAd (hK1 _ _ ?_))
  refine w_scope ?_
  refine zAg (fun K10 hK9 => ?_)
  refine zAb (w_p (zAe (v := .pointer _) rfl rfl) rfl ?_)
  refine w_p (zB9 (fv := [_]) (cv := []) rfl rfl rfl rfl) rfl ?_
  refine w_p (zAc (v := .func _ _ _) rfl rfl) rfl ?_
  refine zAf (zAd (hK9 _ _ ?_))
  refine zAg (fun K12 hK11 => ?_)
  refine w_label ?_
  refine zAd (hK11 _ _ ?_)
  refine zAg (fun K14 hK13 => ?_)
  refine zAg (fun K16 hK15 => ?_)
  refine zAb (w_p (zAe (v := .pointer _) rfl rfl) rfl ?_)
  refine w_p (zBk rfl rfl) rfl ?_
  refine w_p (zAh (o := 0) (i := 0) underlying151 rfl sizeOf31 rfl rfl rfl) rfl ?_
  refine w_p (zAh (o := 3) (i := 2) underlying31 rfl sizeOf29 rfl rfl rfl) rfl ?_
  refine w_p (zAk isAgg29 hs8.tail.tail rfl rfl (show Ats _ _ _ _ [_] from Ats.part hp 3 1)) rfl ?_
  refine w_p (zBd underlying29 rfl rfl) rfl ?_
  refine w_p (zAe (v := _) rfl rfl) rfl ?_
  refine zAf (zAd (hK15 _ _ ?_))
  refine zAy ?_
  refine zBp [8, 9, 18, 19, 20, 21, 22, 23, 24, 25, 26, 27, 28, 29, 30, 31, 32, 33, 34, 35, 36, 37, 38, 39, 40, 41, 42, 43, 44, 45, 46, 47, 48, 49, 50, 51, 52, 53, 54, 55, 56, 57] [18] (fun k vs w => ∃ (i : Nat) (x : Load), x = onUpto p.farms l day i ∧ vs = [.int .i64 i] ∧ i ≤ p.farms.length ∧ k = p.farms.length - i ∧ St w0 w ((b6, blk 132 [.int .i64 x.least, .int .i64 x.most, .int .i64 x.vain]) :: (b3, blk 106 (iv l)) :: F)) (p.farms.length) ?_ ?_
  ·
   exact ⟨0, ⟨0, 0, 0⟩, rfl, rfl, by omega, by omega, hs8⟩
  intro k vs μ w19 hI K18 hN17
  obtain ⟨i, x, hxx, rfl, hia, rfl, hs⟩ := hI
  refine zAg (fun K21 hK20 => ?_)
  refine zAb (w_p (zBt rfl rfl rfl rfl) rfl ?_)
  refine zAf (zAd (hK20 _ _ ?_))
  refine zAg (fun K23 hK22 => ?_)
  refine zAz rfl rfl (fun h24 => ?_) (fun h24 => ?_)
  ·
   try simp only [zS] at h24
   refine zAx (zAd (hK22 _ _ ?_))
   refine zAg (fun K26 hK25 => ?_)
   refine zAy ?_
   refine zAg (fun K28 hK27 => ?_)
   have hi2 : i < p.farms.length := by omega
   have hi3 : i < l.length := by omega
   obtain ⟨bx, ox, rfl, hx⟩ := sl_farm ha hi2
   have hfo := hok.farm _ (List.getElem_mem hi2)
   have hfo2 := hfo
   unfold Farm.Ok at hfo2
   have hb := onUpto_bound (fs := p.farms) (l := l) day i (by have := hok.len; omega) hok.farm
   rw [← hxx] at hb
   have hgd : l[i] = l.getD i 0 := by simp [List.getD, hi3]
   have hl2 := hl1 (l.getD i 0) (by rw [← hgd]; exact List.getElem_mem hi3)
   refine zAb (w_p (zAe (v := .int _ _) rfl rfl) rfl ?_)
   refine w_p (zA7 underlying29 sizeOf48 rfl rfl rfl rfl (i := _) rfl (by omega)) rfl ?_
   refine w_p (zA6 (vs := [_, _, _, _, _, _]) isAgg48 sizeOf48 hs.tail.tail rfl rfl hx) rfl ?_
   refine zA9 (cs := [_, _, _, _, _, _]) zAa zeroValue48 rfl hs (fun b29 w30 hs31 => ?_)
   refine w_p (zAc (v := .int _ _) rfl rfl) rfl ?_
   refine zA5 (i := 0) (v := .agg #[.string _, .int _ _, .int _ _, .int _ _, .int _ _, .int _ _]) (vs := [_, _, _, _, _, _]) zAa sizeOf48 rfl rfl rfl rfl rfl (by simp [Value.oneCell']) hs31 rfl (Nat.le_of_ble_eq_true rfl) (fun w32 hs33 => ?_)
   refine zAf (zAd (hK27 _ _ ?_))
   refine zAy ?_
   refine zAg (fun K35 hK34 => ?_)
   refine zAb (w_p (zAe (v := .int _ _) rfl rfl) rfl ?_)
   refine w_p (zB2 underlying106 sizeOf3 rfl rfl rfl rfl (i := i) (by first | rfl | omega) (by omega)) rfl ?_
   refine w_p (zAk isAgg3 hs33 rfl rfl (zCb (i := 2) (j := i) rfl (by first | omega | rfl | (simp only [List.length_map, List.length_set, List.length_append, List.length_take, List.length_drop, List.length_replicate, List.length_cons, List.length_nil] <;> omega)))) rfl ?_
   refine w_p (zBy rfl rfl rfl rfl) rfl ?_
   refine w_p (zAc (v := .bool _) rfl rfl) rfl ?_
   refine zAf (zAd (hK34 _ _ ?_))
   refine zAz rfl rfl (fun h36 => ?_) (fun h36 => ?_)
   ·
    try simp only [zS] at h36
    refine zBl (q_blk_other rfl ?_)
    refine zA4 (zAd (hK25 _ _ ?_))
    refine zAb (w_p (zBf rfl rfl rfl rfl (by omega) (by omega)) rfl ?_)
    refine w_p (zAe (v := .int _ _) rfl rfl) rfl ?_
    refine zAf (zAd (hN17 _ _ (Nx.intro (p.farms.length - (i + 1)) (by omega) (by repeat (first | exact zAv | refine zAu rfl ?_ | refine zAs rfl ?_ _ | refine zAr rfl ?_)) ?_)))
    first
      | exact ⟨i + 1, ⟨x.least + p.farms[i].lo, x.most + p.farms[i].hi, x.vain⟩, (by rw [zC3 day hi2 hi3, ← hxx]; exact (step_fresh (fresh_pos (by assumption)) (by assumption)).symm), rfl, by omega, rfl, hs33.tail⟩
      | exact ⟨i + 1, ⟨x.least, x.most, x.vain + p.farms[i].hi⟩, (by rw [zC3 day hi2 hi3, ← hxx]; exact (step_vain (by assumption) (by assumption)).symm), rfl, by omega, rfl, hs33.tail⟩
      | exact ⟨i + 1, x, (by rw [zC3 day hi2 hi3, ← hxx]; exact (step_never (by assumption)).symm), rfl, by omega, rfl, hs33.tail⟩
   try simp only [zS] at h36
   refine zAg (fun K38 hK37 => ?_)
   refine zAb (w_p (zAe (v := .func _ _ _) rfl rfl) rfl ?_)
   refine w_p (zAe (v := .int _ _) rfl rfl) rfl ?_
   refine w_p (zAe (v := .int _ _) rfl rfl) rfl ?_
   refine w_p (zB2 underlying106 sizeOf3 rfl rfl rfl rfl (i := i) (by first | rfl | omega) (by omega)) rfl ?_
   refine w_p (zAk isAgg3 hs33 rfl rfl (zCb (i := 2) (j := i) rfl (by first | omega | rfl | (simp only [List.length_map, List.length_set, List.length_append, List.length_take, List.length_drop, List.length_replicate, List.length_cons, List.length_nil] <;> omega)))) rfl ?_
   refine w_p (zAe (v := .int _ _) rfl rfl) rfl ?_
   refine zAt zAa call101 rfl rfl rfl rfl (c101 p _ c m pb hp.cons.cons.cons ha.cons.cons.cons hok i hi2 _ _ (by omega) (by omega) (by omega) (by omega) hs33) ?_
   rintro _ w40 ⟨rfl, hs41⟩
   refine w_p (zAc (v := .bool _) rfl rfl) rfl ?_
   refine zAf (zAd (hK37 _ _ ?_))
   refine zAz rfl rfl (fun h42 => ?_) (fun h42 => ?_)
   ·
    try simp only [zS] at h42
    refine zAg (fun K44 hK43 => ?_)
    refine zAb (w_p (zAh (o := 0) (i := 0) underlying132 rfl sizeOf3 rfl rfl rfl) rfl ?_)
    refine w_p (zAk isAgg3 hs41 rfl rfl (zAj (i := 1) (vs := [_]) rfl rfl)) rfl ?_
    refine w_p (zAh (o := 4) (i := 4) underlying48 rfl sizeOf28 rfl rfl rfl) rfl ?_
    refine w_p (zAh (o := 0) (i := 0) underlying28 rfl sizeOf3 rfl rfl rfl) rfl ?_
    refine w_p (zAk isAgg3 hs41 rfl rfl (zAj (i := 0) (vs := [_]) rfl rfl)) rfl ?_
    refine w_p (zBf rfl rfl rfl rfl (by omega) (by omega)) rfl ?_
    refine w_p (zAh (o := 0) (i := 0) underlying132 rfl sizeOf3 rfl rfl rfl) rfl ?_
    refine zA5 (i := 1) (v := .int _ _) (vs := [_]) zAa sizeOf3 rfl rfl rfl rfl rfl (by simp [Value.oneCell']) hs41 rfl (Nat.le_of_ble_eq_true rfl) (fun w45 hs46 => ?_)
    refine zAf (zAd (hK43 _ _ ?_))
    refine zAb (w_p (zAh (o := 1) (i := 1) underlying132 rfl sizeOf3 rfl rfl rfl) rfl ?_)
    refine w_p (zAk isAgg3 hs46 rfl rfl (zAj (i := 1) (vs := [_]) rfl rfl)) rfl ?_
    refine w_p (zAh (o := 4) (i := 4) underlying48 rfl sizeOf28 rfl rfl rfl) rfl ?_
    refine w_p (zAh (o := 1) (i := 1) underlying28 rfl sizeOf3 rfl rfl rfl) rfl ?_
    refine w_p (zAk isAgg3 hs46 rfl rfl (zAj (i := 0) (vs := [_]) rfl rfl)) rfl ?_
    refine w_p (zBf rfl rfl rfl rfl (by omega) (by omega)) rfl ?_
    refine w_p (zAh (o := 1) (i := 1) underlying132 rfl sizeOf3 rfl rfl rfl) rfl ?_
    refine zA5 (i := 1) (v := .int _ _) (vs := [_]) zAa sizeOf3 rfl rfl rfl rfl rfl (by simp [Value.oneCell']) hs46 rfl (Nat.le_of_ble_eq_true rfl) (fun w47 hs48 => ?_)
    refine zAf (zAl (zAl (zAd (hK25 _ _ ?_))))
    refine zAb (w_p (zBf rfl rfl rfl rfl (by omega) (by omega)) rfl ?_)
    refine w_p (zAe (v := .int _ _) rfl rfl) rfl ?_
    refine zAf (zAd (hN17 _ _ (Nx.intro (p.farms.length - (i + 1)) (by omega) (by repeat (first | exact zAv | refine zAu rfl ?_ | refine zAs rfl ?_ _ | refine zAr rfl ?_)) ?_)))
    first
      | exact ⟨i + 1, ⟨x.least + p.farms[i].lo, x.most + p.farms[i].hi, x.vain⟩, (by rw [zC3 day hi2 hi3, ← hxx]; exact (step_fresh (fresh_pos (by assumption)) (by assumption)).symm), rfl, by omega, rfl, hs48.tail⟩
      | exact ⟨i + 1, ⟨x.least, x.most, x.vain + p.farms[i].hi⟩, (by rw [zC3 day hi2 hi3, ← hxx]; exact (step_vain (by assumption) (by assumption)).symm), rfl, by omega, rfl, hs48.tail⟩
      | exact ⟨i + 1, x, (by rw [zC3 day hi2 hi3, ← hxx]; exact (step_never (by assumption)).symm), rfl, by omega, rfl, hs48.tail⟩
   try simp only [zS] at h42
   refine zAb (w_p (zAh (o := 2) (i := 2) underlying132 rfl sizeOf3 rfl rfl rfl) rfl ?_)
   refine w_p (zAk isAgg3 hs41 rfl rfl (zAj (i := 1) (vs := [_]) rfl rfl)) rfl ?_
   refine w_p (zAh (o := 4) (i := 4) underlying48 rfl sizeOf28 rfl rfl rfl) rfl ?_
   refine w_p (zAh (o := 1) (i := 1) underlying28 rfl sizeOf3 rfl rfl rfl) rfl ?_
   refine w_p (zAk isAgg3 hs41 rfl rfl (zAj (i := 0) (vs := [_]) rfl rfl)) rfl ?_
   refine w_p (zBf rfl rfl rfl rfl (by omega) (by omega)) rfl ?_
   refine w_p (zAh (o := 2) (i := 2) underlying132 rfl sizeOf3 rfl rfl rfl) rfl ?_
   refine zA5 (i := 1) (v := .int _ _) (vs := [_]) zAa sizeOf3 rfl rfl rfl rfl rfl (by simp [Value.oneCell']) hs41 rfl (Nat.le_of_ble_eq_true rfl) (fun w49 hs50 => ?_)
   refine zAf (zAl (zAl (zAd (hK25 _ _ ?_))))
   refine zAb (w_p (zBf rfl rfl rfl rfl (by omega) (by omega)) rfl ?_)
   refine w_p (zAe (v := .int _ _) rfl rfl) rfl ?_
   refine zAf (zAd (hN17 _ _ (Nx.intro (p.farms.length - (i + 1)) (by omega) (by repeat (first | exact zAv | refine zAu rfl ?_ | refine zAs rfl ?_ _ | refine zAr rfl ?_)) ?_)))
   first
     | exact ⟨i + 1, ⟨x.least + p.farms[i].lo, x.most + p.farms[i].hi, x.vain⟩, (by rw [zC3 day hi2 hi3, ← hxx]; exact (step_fresh (fresh_pos (by assumption)) (by assumption)).symm), rfl, by omega, rfl, hs50.tail⟩
     | exact ⟨i + 1, ⟨x.least, x.most, x.vain + p.farms[i].hi⟩, (by rw [zC3 day hi2 hi3, ← hxx]; exact (step_vain (by assumption) (by assumption)).symm), rfl, by omega, rfl, hs50.tail⟩
     | exact ⟨i + 1, x, (by rw [zC3 day hi2 hi3, ← hxx]; exact (step_never (by assumption)).symm), rfl, by omega, rfl, hs50.tail⟩
  try simp only [zS] at h24
  refine zBl (zAo (zAo (zA4 (zAd (hK13 _ _ ?_)))))
  refine zAg (fun K52 hK51 => ?_)
  refine zAb (w_p (zA6 (vs := [_, _, _]) isAgg132 sizeOf132 hs rfl rfl (zAj (i := 0) (vs := [_, _, _]) rfl rfl)) rfl ?_)
  refine zA5 (i := 0) (v := .agg #[.int _ _, .int _ _, .int _ _]) (vs := [_, _, _]) zAa sizeOf132 rfl rfl rfl rfl rfl (by simp [Value.oneCell']) hs rfl (Nat.le_of_ble_eq_true rfl) (fun w53 hs54 => ?_)
  refine zAf (zAd (hK51 _ _ ?_))
  refine zA2 (q_ng_ret ?_)
  refine zA3 (l := [.cell 6 132]) (vs := [_]) rfl ⟨⟨rfl, _, rfl, zBx (vs := [_, _, _]) isAgg132 sizeOf132 hs54 (zAj (i := 0) (vs := [_, _, _]) rfl rfl)⟩, trivial⟩ ?_
  have hfin := onUpto_all (fs := p.farms) (l := l) (i := i) day (by omega)
  exact ⟨by rw [← hfin, ← hxx]; rfl, hs54.tail.tail⟩

end Go.Proofs.Cb
set_option maxRecDepth 20000
namespace Go.Proofs.Cb
open Go.Proofs.Tryz
open Go.Rt Go.Rt.Ca
attribute [local irreducible] WL WC Con Yd At Ats Sl Agree DW
theorem Try_flat106 : flatInts Tryz.prog 106 3 = true := by kernel_rfl
theorem Try_CG_fb4 (x0 : Int) (x1 : Int) (x2 : Int) (w : World) : (Instr.buildSlice 129 1 [(0, .agg #[.int .i64 x0, .int .i64 x1, .int .i64 x2])].toArray).run Tryz.prog w = .ok (.slice (some ⟨w.heap.size, 0, none⟩) 1 1) (w.alloc (Go.Rt.blk 132 [.int .i64 x0, .int .i64 x1, .int .i64 x2])) := by kernel_rfl
theorem Try_info132 : Tryz.prog.info? 132 = some Tryz.t132 := by kernel_rfl
abbrev lrows (l : List Load) : List (List Value) := l.map fun x => iv x.ints
/-- What the memo of a port that is looked at holds: of each key the loads of these cables. -/
def Memo (w0 : World) (p : Port) (m : Nat) (M : List (Nat × Obj)) : Prop := ∃ es ck BL, M = (m, .map es ck) :: BL ∧ ∀ e ∈ es.toList, ∃ l a c, l.length = 3 ∧ e.key = ia l ∧ e.val = .slice a (loads p l).length c ∧ Sl w0 BL a 3 (lrows (loads p l))
theorem memo_new (w0 : World) (p : Port) (m : Nat) : Memo w0 p m [(m, .map #[] 0)] := ⟨#[], 0, [], rfl, fun e he => by simp at he⟩
theorem lcells_succ {p : Port} {l : List Int} {i : Nat} (hi : (i : Int) < p.chi - p.clo + 1) : (lrows ((loads p l).take i)).flatten ++ [iv (on p.farms l (p.clo + i)).ints].flatten = (lrows ((loads p l).take (i + 1))).flatten := by
  rw [loads_take_succ l hi]; simp [lrows]
theorem c72f {w0 w : World} {F : List (Nat × Obj)} (p : Port) (a : Option Addr) (c m pb : Nat) (hp : Ats w0 F pb 0 [.int .i64 p.hold, .int .i64 p.clo, .int .i64 p.chi, .slice a p.farms.length c, .map (some m)]) (ha : Sl w0 F a 6 (rows p.farms)) (hok : p.Ok) (l : List Int) (hlen : l.length = 3) (hl1 : ∀ x ∈ l, -1 ≤ x ∧ x ≤ 10) (es : Array MapEntry) (ck : Nat) (BL : List (Nat × Obj)) (j : Nat) (av : Option Addr) (nv cv : Nat) (hf : ∀ w, (Instr.findKey 106 (ia l) es.toList).run Tryz.prog w = .ok (some (j, .slice av nv cv)) w) (hs : St w0 w ((m, .map es ck) :: (BL ++ F))) :
  Con Tryz.prog 72 [.pointer (some ⟨pb, 0, none⟩), ia l] w fun v w' => v = .slice av nv cv ∧ St w0 w' ((m, .map es ck) :: (BL ++ F)) := by
  refine zAw (n := 59) func72 rfl rfl (Nat.le_of_ble_eq_true rfl) ?_
  refine zAg (fun K2 hK1 => ?_)
  refine zAb (w_boxI (l := _) zAa rfl rfl rfl hs (fun b3 w4 hs5 => ?_))
  refine w_p (zAc (v := _) rfl rfl) rfl ?_
  refine zAf (zAd (hK1 _ _ ?_))
  refine zAg (fun K7 hK6 => ?_)
  refine zAg (fun K9 hK8 => ?_)
  refine zB7 [] [(0, 0), (1, 0), (2, 0), (3, 1), (4, 1), (5, 1), (6, 0), (7, 0), (8, 0), (9, 0), (10, 0)] zBu (by kernel_rfl) hs5 (fun w10 hs11 => ?_)
  refine zAp rfl zAa rfl (fun _ => (zAe (v := .pointer _) rfl rfl)) ?_
  refine zAp rfl zAa rfl (fun _ => (zBk rfl rfl)) ?_
  refine zAp rfl zAa rfl (fun _ => (zAh (o := 4) (i := 1) underlying151 rfl sizeOf149 rfl rfl rfl)) ?_
  refine zBa rfl zAa rfl hs11 (fun _ hq => (zAk isAgg149 hq.tail.tail.drop rfl rfl (show Ats _ _ _ _ [_] from Ats.part hp 4 1))) ?_
  refine zBa rfl zAa rfl hs11 (fun _ hq => (zB4 (i := 0) isAgg106 sizeOf106 (by first | omega | rfl | (simp only [List.length_map, List.length_set, List.length_append, List.length_take, List.length_drop, List.length_replicate, List.length_cons, List.length_nil] <;> omega)) hq rfl rfl rfl)) ?_
  refine zBa rfl zAa rfl hs11 (fun _ hq => (y_lookupS (i := 1) (l := l) underlying149 underlying106 (by omega) underlying3 sizeOf3 hq rfl rfl rfl rfl rfl rfl hf)) ?_
  refine zAp rfl zAa rfl (fun _ => (zAe (v := .tuple _) rfl rfl)) ?_
  refine zAp rfl zAa rfl (fun _ => (zAq (v := .slice _ _ _) rfl rfl rfl)) ?_
  refine zAp rfl zAa rfl (fun _ => (zAq (v := .bool _) rfl rfl rfl)) ?_
  refine zAp rfl zAa rfl (fun _ => (zAc (v := .slice _ _ _) rfl rfl)) ?_
  refine zAp rfl zAa rfl (fun _ => (zAc (v := .bool _) rfl rfl)) ?_
  refine zB1 ?_
  refine zAd (hK8 _ _ ?_)
  refine zAg (fun K13 hK12 => ?_)
  refine zAb (w_p (zAe (v := .bool _) rfl rfl) rfl ?_)
  refine zAf (zAd (hK12 _ _ ?_))
  refine zCg rfl rfl ?_
  refine zAg (fun K15 hK14 => ?_)
  refine zAb (w_p (zAe (v := .slice _ _ _) rfl rfl) rfl ?_)
  refine w_p (zAc (v := .slice _ _ _) rfl rfl) rfl ?_
  refine zAf (zAd (hK14 _ _ ?_))
  refine zA2 (zAm (zA3 (l := [.tmp 4]) (vs := [_]) rfl ⟨⟨rfl, show _ = (.slice _ _ _ : Value) from rfl⟩, trivial⟩ ?_))
  exact ⟨rfl, hs11.tail⟩

theorem c72n {w0 w : World} {F : List (Nat × Obj)} (p : Port) (a : Option Addr) (c m pb : Nat) (hp : Ats w0 F pb 0 [.int .i64 p.hold, .int .i64 p.clo, .int .i64 p.chi, .slice a p.farms.length c, .map (some m)]) (ha : Sl w0 F a 6 (rows p.farms)) (hok : p.Ok) (l : List Int) (hlen : l.length = 3) (hl1 : ∀ x ∈ l, -1 ≤ x ∧ x ≤ 10) (es : Array MapEntry) (ck : Nat) (BL : List (Nat × Obj)) (hf : ∀ w, (Instr.findKey 106 (ia l) es.toList).run Tryz.prog w = .ok none w) (hs : St w0 w ((m, .map es ck) :: (BL ++ F))) :
  Con Tryz.prog 72 [.pointer (some ⟨pb, 0, none⟩), ia l] w fun v w' => ∃ B a c, v = .slice a (loads p l).length c ∧ Sl w0 B a 3 (lrows (loads p l)) ∧ St w0 w' ((m, .map (es.push { key := ia l, val := v, born := ck }) (ck + 1)) :: (B ++ (BL ++ F))) := by
  refine zAw (n := 59) func72 rfl rfl (Nat.le_of_ble_eq_true rfl) ?_
  have hcome := hok.come
  refine zAg (fun K2 hK1 => ?_)
  refine zAb (w_boxI (l := _) zAa rfl rfl rfl hs (fun b3 w4 hs5 => ?_))
  refine w_p (zAc (v := _) rfl rfl) rfl ?_
  refine zAf (zAd (hK1 _ _ ?_))
  refine zAg (fun K7 hK6 => ?_)
  refine zAg (fun K9 hK8 => ?_)
  refine zB7 [] [(0, 0), (1, 0), (2, 0), (3, 1), (4, 1), (5, 1), (6, 0), (7, 0), (8, 0), (9, 0), (10, 0)] zBu (by kernel_rfl) hs5 (fun w10 hs11 => ?_)
  refine zAp rfl zAa rfl (fun _ => (zAe (v := .pointer _) rfl rfl)) ?_
  refine zAp rfl zAa rfl (fun _ => (zBk rfl rfl)) ?_
  refine zAp rfl zAa rfl (fun _ => (zAh (o := 4) (i := 1) underlying151 rfl sizeOf149 rfl rfl rfl)) ?_
  refine zBa rfl zAa rfl hs11 (fun _ hq => (zAk isAgg149 hq.tail.tail.drop rfl rfl (show Ats _ _ _ _ [_] from Ats.part hp 4 1))) ?_
  refine zBa rfl zAa rfl hs11 (fun _ hq => (zB4 (i := 0) isAgg106 sizeOf106 (by first | omega | rfl | (simp only [List.length_map, List.length_set, List.length_append, List.length_take, List.length_drop, List.length_replicate, List.length_cons, List.length_nil] <;> omega)) hq rfl rfl rfl)) ?_
  refine zBa rfl zAa rfl hs11 (fun _ hq => (y_lookupN (i := 1) (l := l) underlying149 underlying106 (by omega) underlying3 sizeOf3 zeroValue129 hq rfl rfl rfl rfl rfl rfl hf)) ?_
  refine zAp rfl zAa rfl (fun _ => (zAe (v := .tuple _) rfl rfl)) ?_
  refine zAp rfl zAa rfl (fun _ => (zAq (v := .slice _ _ _) rfl rfl rfl)) ?_
  refine zAp rfl zAa rfl (fun _ => (zAq (v := .bool _) rfl rfl rfl)) ?_
  refine zAp rfl zAa rfl (fun _ => (zAc (v := .slice _ _ _) rfl rfl)) ?_
  refine zAp rfl zAa rfl (fun _ => (zAc (v := .bool _) rfl rfl)) ?_
  refine zB1 ?_
  refine zAd (hK8 _ _ ?_)
  refine zAg (fun K13 hK12 => ?_)
  refine zAb (w_p (zAe (v := .bool _) rfl rfl) rfl ?_)
  refine zAf (zAd (hK12 _ _ ?_))
  refine zB0 rfl rfl ?_
  refine zAx (zAd (hK6 _ _ ?_))
  refine zAg (fun K15 hK14 => ?_)
  refine zAb (w_p (zAc (v := _) rfl rfl) rfl ?_)
  refine zAf (zAd (hK14 _ _ ?_))
  refine zAg (fun K17 hK16 => ?_)
  refine zAg (fun K19 hK18 => ?_)
  refine zB7 [] [(0, 0), (1, 0), (2, 0), (3, 0), (4, 0), (5, 1), (6, 0), (7, 0), (8, 0), (9, 0), (10, 0), (11, 1), (12, 0), (13, 0), (14, 0)] zBu (by kernel_rfl) hs11 (fun w20 hs21 => ?_)
  refine zAp rfl zAa rfl (fun _ => (zAe (v := .pointer _) rfl rfl)) ?_
  refine zAp rfl zAa rfl (fun _ => (zBk rfl rfl)) ?_
  refine zAp rfl zAa rfl (fun _ => (zAh (o := 0) (i := 0) underlying151 rfl sizeOf31 rfl rfl rfl)) ?_
  refine zAp rfl zAa rfl (fun _ => (zAh (o := 1) (i := 1) underlying31 rfl sizeOf28 rfl rfl rfl)) ?_
  refine zAp rfl zAa rfl (fun _ => (zAh (o := 1) (i := 1) underlying28 rfl sizeOf3 rfl rfl rfl)) ?_
  refine zBa rfl zAa rfl hs21 (fun _ hq => (zAk isAgg3 hq.tail.tail.drop rfl rfl (show Ats _ _ _ _ [_] from Ats.part hp 2 1))) ?_
  refine zAp rfl zAa rfl (fun _ => (zAe (v := .pointer _) rfl rfl)) ?_
  refine zAp rfl zAa rfl (fun _ => (zBk rfl rfl)) ?_
  refine zAp rfl zAa rfl (fun _ => (zAh (o := 0) (i := 0) underlying151 rfl sizeOf31 rfl rfl rfl)) ?_
  refine zAp rfl zAa rfl (fun _ => (zAh (o := 1) (i := 1) underlying31 rfl sizeOf28 rfl rfl rfl)) ?_
  refine zAp rfl zAa rfl (fun _ => (zAh (o := 0) (i := 0) underlying28 rfl sizeOf3 rfl rfl rfl)) ?_
  refine zBa rfl zAa rfl hs21 (fun _ hq => (zAk isAgg3 hq.tail.tail.drop rfl rfl (show Ats _ _ _ _ [_] from Ats.part hp 1 1))) ?_
  refine zAp rfl zAa rfl (fun _ => (y_sub rfl rfl rfl rfl (by omega) (by omega))) ?_
  refine zAp rfl zAa rfl (fun _ => (zBf rfl rfl rfl rfl (by omega) (by omega))) ?_
  refine zAp rfl zAa rfl (fun _ => (zAe (v := _) rfl rfl)) ?_
  refine zB1 ?_
  refine zAd (hK18 _ _ ?_)
  refine zAy ?_
  refine zBp [7, 8, 34, 35, 36, 37, 38, 39, 40, 41, 42, 43, 44, 45, 46, 47, 48, 49, 50, 51] [7, 34] (fun k vs w => ∃ (i : Nat) (v : Value) (B : List (Nat × Obj)), vs = [v, .int .i64 i] ∧ (i : Int) ≤ p.chi - p.clo + 1 ∧ k = (p.chi - p.clo + 1 - i).toNat ∧ Rt.Own v 132 3 i (lrows ((loads p l).take i)).flatten B ∧ St w0 w ((b3, blk 106 (iv l)) :: (m, .map es ck) :: (B ++ (BL ++ F)))) ((p.chi - p.clo + 1).toNat) ?_ ?_
  ·
   exact ⟨0, _, [], rfl, by omega, by simp, own_nil 132 3, hs21⟩
  intro k vs μ w24 hI K23 hN22
  obtain ⟨i, v, B, rfl, hia, rfl, hown, hs⟩ := hI
  refine zAg (fun K26 hK25 => ?_)
  refine zAb (w_p (zBt rfl rfl rfl rfl) rfl ?_)
  refine zAf (zAd (hK25 _ _ ?_))
  refine zAg (fun K28 hK27 => ?_)
  refine zAz rfl rfl (fun h29 => ?_) (fun h29 => ?_)
  ·
   try simp only [zS] at h29
   refine zAx (zAd (hK27 _ _ ?_))
   refine zAg (fun K31 hK30 => ?_)
   refine zAy ?_
   refine zAg (fun K33 hK32 => ?_)
   refine zAb (w_p (zAe (v := .int _ _) rfl rfl) rfl ?_)
   refine w_p (zAc (v := .int _ _) rfl rfl) rfl ?_
   refine zAf (zAd (hK32 _ _ ?_))
   refine zB7 [13] [(0, 0), (1, 0), (2, 1), (3, 0), (4, 0), (5, 0), (6, 0), (7, 0), (8, 1), (9, 0), (10, 0), (11, 2), (12, 2), (13, 3), (14, 0)] zBu (by kernel_rfl) hs (fun w34 hs35 => ?_)
   refine zAp rfl zAa rfl (fun _ => (zAe (v := v) rfl rfl)) ?_
   refine zAp rfl zAa rfl (fun _ => (zAe (v := .pointer _) rfl rfl)) ?_
   refine zBa rfl zAa rfl hs35 (fun _ hq => (zB4 (i := 0) isAgg106 sizeOf106 (by first | omega | rfl | (simp only [List.length_map, List.length_set, List.length_append, List.length_take, List.length_drop, List.length_replicate, List.length_cons, List.length_nil] <;> omega)) hq rfl rfl rfl)) ?_
   refine zAp rfl zAa rfl (fun _ => (zAe (v := .pointer _) rfl rfl)) ?_
   refine zAp rfl zAa rfl (fun _ => (zBk rfl rfl)) ?_
   refine zAp rfl zAa rfl (fun _ => (zAh (o := 0) (i := 0) underlying151 rfl sizeOf31 rfl rfl rfl)) ?_
   refine zAp rfl zAa rfl (fun _ => (zAh (o := 1) (i := 1) underlying31 rfl sizeOf28 rfl rfl rfl)) ?_
   refine zAp rfl zAa rfl (fun _ => (zAh (o := 0) (i := 0) underlying28 rfl sizeOf3 rfl rfl rfl)) ?_
   refine zBa rfl zAa rfl hs35 (fun _ hq => (zAk isAgg3 hq.tail.tail.drop.drop rfl rfl (show Ats _ _ _ _ [_] from Ats.part hp 1 1))) ?_
   refine zAp rfl zAa rfl (fun _ => (zAe (v := .int _ _) rfl rfl)) ?_
   refine zAp rfl zAa rfl (fun _ => (zBf rfl rfl rfl rfl (by omega) (by omega))) ?_
   refine zCl rfl ?_
   refine zAt zAa call88 rfl rfl rfl rfl (c88 p _ c m pb hp.app.app.cons.cons ha.app.app.cons.cons hok _ (by assumption) (by assumption) _ (by omega) (by omega) hs35) ?_
   rintro _ w37 ⟨rfl, hs38⟩
   refine zAf (qn ⟨hs38, ?_⟩)
   refine zCl rfl ?_
   refine zBh (ps := [(0, _)]) (pv := [(0, .agg #[.int _ _, .int _ _, .int _ _])]) (cs := [_, _, _]) zAa rfl rfl (fun w => Try_CG_fb4 _ _ _ w) hs38 (fun b39 w40 hs41 => ?_)
   refine zAf (qn ⟨hs41.tail, ?_⟩)
   refine zC8 rfl ?_
   refine zCw (X := (_ :: _ :: _ :: [])) (B := B) (rows := [[_, _, _]]) (sz := 3) (bytes := 24) zAa underlying129 Try_info132 rfl rfl rfl rfl rfl rfl rfl rfl rfl hs41 hown (zBr (i := 0) rfl (by simp) rfl) rfl (by simp) (by simp [Value.oneCell']) (by simp only [maxLen]; omega) (by omega) (fun v42 w43 B44 ho45 hs46 => ?_)
   replace hs46 := (show St _ _ (_ :: _ :: _ :: B44 ++ (BL ++ (F))) from hs46)
   refine zAf (qn ?_)
   refine zAp rfl zAa rfl (fun _ => (zAc (v := v42) rfl rfl)) ?_
   refine zB1 ?_
   refine zAl (zAd (hK30 _ _ ?_))
   refine zAb (w_p (zBf rfl rfl rfl rfl (by omega) (by omega)) rfl ?_)
   refine w_p (zAe (v := .int _ _) rfl rfl) rfl ?_
   refine zAf (zAd (hN22 _ _ (Nx.intro ((p.chi - p.clo + 1 - (i + 1 : Nat)).toNat) (by omega) (by repeat (first | exact zAv | refine zAu rfl ?_ | refine zAs rfl ?_ _ | refine zAr rfl ?_)) ?_)))
   exact ⟨i + 1, _, _, rfl, by omega, rfl, by rw [← lcells_succ (by omega)]; exact ho45, hs46.tail⟩
  try simp only [zS] at h29
  refine zBl (zAo (zAo (zA4 (zAd (hK16 _ _ ?_)))))
  refine zAg (fun K48 hK47 => ?_)
  refine zB7 [6] [(0, 0), (1, 0), (2, 0), (3, 1), (4, 1), (5, 0), (6, 3)] zBu (by kernel_rfl) hs (fun w49 hs50 => ?_)
  refine zAp rfl zAa rfl (fun _ => (zAe (v := .pointer _) rfl rfl)) ?_
  refine zAp rfl zAa rfl (fun _ => (zBk rfl rfl)) ?_
  refine zAp rfl zAa rfl (fun _ => (zAh (o := 4) (i := 1) underlying151 rfl sizeOf149 rfl rfl rfl)) ?_
  refine zBa rfl zAa rfl hs50 (fun _ hq => (zAk isAgg149 hq.tail.tail.drop.drop rfl rfl (show Ats _ _ _ _ [_] from Ats.part hp 4 1))) ?_
  refine zBa rfl zAa rfl hs50 (fun _ hq => (zB4 (i := 0) isAgg106 sizeOf106 (by first | omega | rfl | (simp only [List.length_map, List.length_set, List.length_append, List.length_take, List.length_drop, List.length_replicate, List.length_cons, List.length_nil] <;> omega)) hq rfl rfl rfl)) ?_
  refine zAp rfl zAa rfl (fun _ => (zAe (v := v) rfl rfl)) ?_
  refine zC8 rfl ?_
  refine w_mapAdd (i := 1) (l := l) zAa underlying149 underlying106 (by omega) underlying3 sizeOf3 rfl rfl rfl rfl rfl rfl rfl hs50 rfl hf (fun w51 hs52 => ?_)
  refine zAf (qn ?_)
  refine zB1 ?_
  refine zAd (hK47 _ _ ?_)
  refine zAg (fun K54 hK53 => ?_)
  refine zAb (w_p (zAe (v := v) rfl rfl) rfl ?_)
  refine w_p (zAc (v := v) rfl rfl) rfl ?_
  refine zAf (zAd (hK53 _ _ ?_))
  refine zA2 (zA3 (l := [.tmp 4]) (vs := [_]) rfl ⟨⟨rfl, show _ = (v : Value) from rfl⟩, trivial⟩ ?_)
  obtain ⟨aw, cw, rfl, hsl⟩ := hown.sl (w0 := w0) (rows := lrows (loads p l)) (by intro row hr; obtain ⟨x, _, rfl⟩ := List.mem_map.1 hr; rfl) (by rw [List.length_map, loads_len]; omega) (by rw [List.take_of_length_le (by rw [loads_len]; omega)]) []
  rw [List.append_nil] at hsl
  rw [List.length_map] at *
  exact ⟨B, aw, cw, rfl, hsl, hs52.tail⟩

theorem loads_con {w0 w : World} {X M F : List (Nat × Obj)} (p : Port) (a : Option Addr) (c m pb : Nat) (hp : Ats w0 F pb 0 [.int .i64 p.hold, .int .i64 p.clo, .int .i64 p.chi, .slice a p.farms.length c, .map (some m)]) (ha : Sl w0 F a 6 (rows p.farms)) (hok : p.Ok) (l : List Int) (hlen : l.length = 3) (hl1 : ∀ x ∈ l, -1 ≤ x ∧ x ≤ 10) (hM : Memo w0 p m M) (hs : St w0 w (X ++ (M ++ F))) :
    Con Tryz.prog 72 [.pointer (some ⟨pb, 0, none⟩), ia l] w fun v w' => ∃ M' a c, v = .slice a (loads p l).length c ∧ Memo w0 p m M' ∧ Sl w0 (X ++ (M' ++ F)) a 3 (lrows (loads p l)) ∧ St w0 w' (X ++ (M' ++ F)) := by
  obtain ⟨es, ck, BL, rfl, hes⟩ := hM
  have hs1 : St w0 w ((m, .map es ck) :: (BL ++ (X ++ F))) := hs.perm (zBe X ((m, .map es ck) :: BL) F)
  rcases run_findKey (P := Tryz.prog) underlying106 (by rw [hlen]; exact Try_flat106) es.toList (fun e he => by obtain ⟨l', _, _, h1, h2, _⟩ := hes e he; exact ⟨l', by omega, h2⟩) with ⟨hf, hne⟩ | ⟨j, e, hf, hmem, hkey⟩
  · refine (c72n p a c m pb (hp.app (L' := X)) (ha.app (L' := X)) hok l hlen hl1 es ck BL hf hs1).mono ?_
    rintro v w' ⟨B, av, cv, rfl, hsl, hs2⟩
    refine ⟨(m, .map (es.push { key := ia l, val := .slice av (loads p l).length cv, born := ck }) (ck + 1)) :: (B ++ BL), av, cv, rfl, ⟨_, _, _, rfl, fun e he => ?_⟩, ?_, ?_⟩
    · rw [Array.toList_push, List.mem_append] at he
      rcases he with he | he
      · obtain ⟨l', a', c', h1, h2, h3, h4⟩ := hes e he
        exact ⟨l', a', c', h1, h2, h3, h4.app⟩
      · rw [List.mem_singleton] at he
        subst he
        exact ⟨l, av, cv, hlen, rfl, rfl, hsl.mono fun w' h => by have := h.perm List.perm_append_comm; exact this.drop⟩
    · exact hsl.mono fun w' h => by
        have h3 : St w0 w' ((m, .map (es.push { key := ia l, val := .slice av (loads p l).length cv, born := ck }) (ck + 1)) :: (B ++ BL)) := h.drop.front
        exact h3.tail.front
    · have e : ((m, .map (es.push { key := ia l, val := .slice av (loads p l).length cv, born := ck }) (ck + 1)) :: (B ++ (BL ++ (X ++ F))) : List (Nat × Obj)) = ((m, .map (es.push { key := ia l, val := .slice av (loads p l).length cv, born := ck }) (ck + 1)) :: (B ++ BL)) ++ (X ++ F) := by simp
      rw [e] at hs2
      exact hs2.perm (zBe _ _ _)
  · obtain ⟨l', a', c', h1, h2, h3, h4⟩ := hes e hmem
    have hll : l' = l := ia_inj (h2.symm.trans hkey)
    subst hll
    rw [h3] at hf
    refine (c72f p a c m pb (hp.app (L' := X)) (ha.app (L' := X)) hok l' hlen hl1 es ck BL j a' _ c' hf hs1).mono ?_
    rintro v w' ⟨rfl, hs2⟩
    have hs3 : St w0 w' (X ++ (((m, .map es ck) :: BL) ++ F)) := hs2.perm (zBe X ((m, .map es ck) :: BL) F).symm
    refine ⟨_, a', c', rfl, ⟨es, ck, BL, rfl, hes⟩, ?_, hs3⟩
    exact h4.mono fun w' h => by
      have h3 : St w0 w' ((m, .map es ck) :: BL) := h.drop.front
      exact h3.tail

end Go.Proofs.Cb
/- Plain words of the cable layer: valid ports, cables that are given. No conditions. -/
namespace Go.Rt.Ca
theorem fErr_ok {b : List ByteArray} {f : Farm} (h : fErr b f = 0) : f.Ok := by
  unfold fErr at h
  split at h
  · split at h
    · omega
    · unfold farmErr at h
      split at h
      · omega
      · rename_i h1
        unfold ends at h
        split at h
        · omega
        · rename_i h2
          split at h
          · omega
          · simp only [out, Bool.or_eq_true, decide_eq_true_eq, not_or] at h1 h2
            unfold Farm.Ok
            omega
  · omega
theorem farmsErr_ok : ∀ (l : List Farm) (b : List ByteArray) (i : Int), (farmsErr b i l).2.2 = 0 → ∀ f ∈ l, f.Ok
  | [], _, _, _ => by simp
  | f :: l, b, i, h => by
    simp only [farmsErr] at h
    split at h
    · rename_i h1
      intro g hg
      cases hg with
      | head => exact fErr_ok h1
      | tail _ hg => exact farmsErr_ok l _ _ h g hg
    · rename_i h1; exact absurd h h1
theorem check_ok {p : Port} (h : (check p).2.2 = 0) : p.Ok := by
  unfold check at h
  split at h
  · simp at h
  · rename_i h1
    split at h
    · simp at h
    · rename_i h2
      split at h
      · simp at h
      · rename_i h3
        simp only [out, Bool.or_eq_true, decide_eq_true_eq, not_or] at h1
        exact ⟨by omega, by omega, by omega, farmsErr_ok _ _ _ h⟩
/-- The cables as the program keeps them. -/
def pad (l : List Int) : List Int := l.take 3 ++ [0, 0, 0].drop l.length
theorem zCp (l : List Int) : (pad l).length = 3 := by simp [pad]; omega
/-- The error of a port, or of cables. -/
def enterErr (p : Port) (l : List Int) : Int := if (check p).2.2 ≠ 0 then (check p).2.2 else if l.length ≠ p.farms.length then 3 else if l.any (out (-1) 10) then 7 else 0
theorem zC7 {p : Port} {l : List Int} (h : enterErr p l = 0) : (check p).2.2 = 0 ∧ l.length = p.farms.length ∧ ∀ x ∈ l, -1 ≤ x ∧ x ≤ 10 := by
  unfold enterErr at h
  split at h
  · rename_i h1; exact absurd h h1
  · rename_i h1
    split at h
    · omega
    · rename_i h2
      split at h
      · omega
      · rename_i h3
        refine ⟨by simpa using h1, by simpa using h2, fun x hx => ?_⟩
        have h4 : l.any (out (-1) 10) = false := by simpa using h3
        rw [List.any_eq_false] at h4
        have := h4 x hx
        simp only [out, Bool.or_eq_true, decide_eq_true_eq, not_or] at this
        omega
theorem pad_in {p : Port} {l : List Int} (h : enterErr p l = 0) : ∀ x ∈ pad l, -1 ≤ x ∧ x ≤ 10 := by
  intro x hx
  unfold pad at hx
  rcases List.mem_append.1 hx with h1 | h1
  · exact (zC7 h).2.2 x (List.mem_of_mem_take h1)
  · have := List.mem_of_mem_drop h1
    simp only [List.mem_cons, List.not_mem_nil, or_false, or_self] at this
    omega
theorem zip_pad {fs : List Farm} {l : List Int} (h : l.length = fs.length) (h3 : fs.length ≤ 3) : fs.zip (pad l) = fs.zip l := by
  unfold pad
  rw [List.take_of_length_le (by omega)]
  apply List.ext_getElem?
  intro i
  by_cases hi : i < l.length
  · simp [List.getElem?_append_left hi, List.zip, List.getElem?_zipWith]
  · simp [List.zip, List.getElem?_zipWith, List.getElem?_eq_none (by omega : fs.length ≤ i)]
theorem on_pad {fs : List Farm} {l : List Int} (day : Int) (h : l.length = fs.length) (h3 : fs.length ≤ 3) : on fs (pad l) day = on fs l day := by unfold on; rw [zip_pad h h3]
theorem loads_pad {p : Port} {l : List Int} (h : l.length = p.farms.length) (h3 : p.farms.length ≤ 3) : loads p (pad l) = loads p l := by
  unfold loads; congr 1; funext d; exact on_pad d h h3
theorem vain_pad {p : Port} {l : List Int} (h : l.length = p.farms.length) (h3 : p.farms.length ≤ 3) : vain p (pad l) = vain p l := by unfold vain; rw [loads_pad h h3]
theorem full_pad {p : Port} {l : List Int} (h : l.length = p.farms.length) (h3 : p.farms.length ≤ 3) : full p (pad l) = full p l := by unfold full; congr 1; funext d; rw [on_pad d h h3]
theorem never_pad {p : Port} {l : List Int} (h : l.length = p.farms.length) (h3 : p.farms.length ≤ 3) : never p (pad l) = never p l := by unfold never; congr 1; funext d; rw [on_pad d h h3]
theorem does_pad {p : Port} {l : List Int} (h : l.length = p.farms.length) (h3 : p.farms.length ≤ 3) : does p (pad l) = does p l := by unfold does; rw [full_pad h h3, never_pad h h3]
/-- Full and never, over the loads. -/
theorem full_loads (p : Port) (l : List Int) : full p l = (loads p l).all fun x => decide (p.hold ≤ x.least) := by simp [full, loads, List.all_map, Function.comp_def]
theorem never_loads (p : Port) (l : List Int) : never p l = (loads p l).all fun x => decide (x.most < p.hold) := by simp [never, loads, List.all_map, Function.comp_def]
def quay (p : Port) (l : List Int) : List (List Int) := (loads p l).map fun x => [x.least, x.most]
def quayR (p : Port) (l : List Int) : List (List Int) := if enterErr p l = 0 then quay p l else []
end Go.Rt.Ca
