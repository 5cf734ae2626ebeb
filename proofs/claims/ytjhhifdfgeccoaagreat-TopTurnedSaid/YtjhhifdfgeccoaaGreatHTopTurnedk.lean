/- Own texts of this claim, joined. No conditions. -/
import Derived.OpenShut
import Derived.Test.YtjhhifdfgeccoaaGreatRows
import Derived.Test.YtjhhifdfgeccoaaGreatHTopTurneda
import Derived.Test.YtjhhifdfgeccoaaGreatHTopTurnedb
import Derived.Test.YtjhhifdfgeccoaaGreatHTopTurnedc
import Derived.Test.YtjhhifdfgeccoaaGreatHTopTurnedd
import Derived.Test.YtjhhifdfgeccoaaGreatHTopTurnede
import Derived.Test.YtjhhifdfgeccoaaGreatHTopTurnedf
import Derived.Test.YtjhhifdfgeccoaaGreatHTopTurnedg
import Derived.Test.YtjhhifdfgeccoaaGreatHTopTurnedh
import Derived.Test.YtjhhifdfgeccoaaGreatHTopTurnedi
import Derived.Test.YtjhhifdfgeccoaaGreatHTopTurnedj
set_option linter.unusedVariables false
set_option linter.unusedSimpArgs false
set_option maxRecDepth 20000
namespace Go.Proofs.Uc
open Go.Proofs.Tryz
open Go.Rt Go.Rt.Cm
open Go.Rt.Ha (felt spanL upto zBv listL bit Bunch zB8 zCi zBx zB2 zCg zCf zBu)
attribute [local irreducible] WL WC Con Yd At Ats Sl Agree DW

theorem c14 {w0 w : World} {F : List (Nat × Obj)} (n a b : Int) (hs : St w0 w F) :
  Con Tryz.prog 14 [.int .i64 n, .agg #[.int .i64 a, .int .i64 b]] w fun v w' => v = .bool (decide (a ≤ n ∧ n ≤ b)) ∧ St w0 w' F := by
  refine zAo (n := 11) func14 rfl rfl (zNl rfl) ?_
  refine zAf (fun K2 g3 => (zAb (zCj (v := .agg #[.int _ _, .int _ _]) (cs := [_,_]) zAa rfl rfl rfl hs (fun b3 w4 g0 => ?_))))
  refine zBi rfl rfl (zAd (zAc (g3 _ _ (zAf (fun K7 g4 => (zAb (zA6 rfl rfl (w_p (zAe (o := 0) (i := 0) underlying36 rfl sizeOf3 rfl rfl rfl) rfl (w_p (zAg isAgg3 g0 rfl rfl (aow 0 [_])) rfl ?_)))))))))
  refine w_p (zAe (o := 1) (i := 1) underlying36 rfl sizeOf3 rfl rfl rfl) rfl (w_p (zAg isAgg3 g0 rfl rfl (aow 0 [_])) rfl ?_)
  refine zCo zAa call13 rfl rfl rfl rfl (c13 _ _ _ g0) (fun w9 g5 => ?_)
  refine w_p (zAs rfl rfl) rfl (zAd (zAc (g4 _ _ (zA8 (zBa (l := [.tmp 4]) (vs := [_]) rfl ⟨⟨rfl, (rfl : _ = Value.bool _)⟩, trivial⟩ ?_)))))
  exact ⟨rfl, g5.tail⟩

theorem ask_parts {lo hi q : Nat} (h3 : hi < 4) (hlo : lo ≤ q) (hhi : q ≤ hi) : truths (fileT lo hi) 0 ≠ [] ∧ ((q : Nat) : Int) ∈ who (fileT lo hi) 0 ∧ (owes (fileT lo hi) ((q : Nat) : Int)).2 = 7 ∧ openTo (fileT lo hi) 1 = [] ∧ ∀ i, i < 4 → pays (fileT lo hi) i = if ¬ (lo ≤ i ∧ i ≤ hi) then 2 else if lo = hi then 1 else 0 := by
  have h := askT_all lo (by omega) hi h3 q (by omega) hlo hhi
  unfold askT at h
  simp only [Bool.and_eq_true, decide_eq_true_eq, List.all_eq_true, List.mem_range] at h
  exact ⟨h.1, h.2.1, h.2.2.1, h.2.2.2.1, h.2.2.2.2⟩
theorem c15 {w0 w : World} {F : List (Nat × Obj)} (lo hi q : Nat) (p : AtF) (hm : FIn w0 F (fileT lo hi) p) (h3 : hi < 4) (hlo : lo ≤ q) (hhi : q ≤ hi) (hs : St w0 w F) :
  Con Tryz.prog 15 [.agg ((fileT lo hi).cells p).toArray, .int .i64 (q : Int)] w fun v w' => v = .bool true ∧ St w0 w' F := by
  refine zAo (n := 98) func15 rfl rfl (zNl rfl) ?_
  have hask := ask_parts h3 hlo hhi
  have ht := hask.1
  have hf : (fileT lo hi).Ok := fileT_ok ⟨by omega, by omega, by omega⟩
  have hl1 : 0 < (fileT lo hi).lots.length := by show 0 < 1; decide
  have hpl : (fileT lo hi).parties.length = 4 := rfl
  have hwl : (who (fileT lo hi) 0).length ≤ 4 := zDx _ _
  refine zAf (fun K2 gA => (zAb (zCj (v := .agg #[.slice _ _ _, .slice _ _ _, .slice _ _ _, .slice _ _ _, .slice _ _ _]) (cs := [_,_,_,_,_]) zAa rfl rfl rfl hs (fun b3 w4 ge => ?_))))
  refine zBi rfl rfl (zAd (zAc (gA _ _ (zAf (fun K7 gB => ?_)))))
  obtain ⟨bl, ol, hbl, hl0⟩ := sl_lot (i := 0) hm hl1
  replace hl0 : Ats w0 F bl (ol + 0 * 4) [.slice (p.ar 0) 4 (p.cr 0), .int .i64 (lo : Int), .int .i64 (hi : Int), .int .i64 7] := hl0
  refine zAb (w_p (zAe (o := 2) (i := 2) underlying56 rfl sizeOf52 rfl rfl rfl) rfl (w_p (zCl hbl (zAg isAgg52 ge rfl rfl (aow 0 [_]))) rfl (w_p (zA7 underlying52 sizeOf100 rfl rfl rfl rfl (i := 0) rfl hl1) rfl (w_p (zAe (o := 1) (i := 1) underlying100 rfl sizeOf36 rfl rfl rfl) rfl ?_))))
  refine w_p (zA2 (vs := [_,_]) isAgg36 sizeOf36 ge.tail rfl rfl (show Ats _ _ _ _ [_,_] from Ats.part hl0 1 2)) rfl (zA1 (cs := [_,_]) zAa zeroValue36 rfl ge (fun b8 w9 gC => ?_))
  refine zBj 0 (.agg #[.int _ _, .int _ _]) [_,_] sizeOf36 gC (fun hD gq => ?_)
  refine zAd (zAc (gB _ _ (zAf (fun hN gD => (zAb (w_p (zA2 (vs := [_,_,_,_,_]) isAgg56 sizeOf56 gq rfl rfl (aow 1 [_,_,_,_,_])) rfl ?_))))))
  refine zA4 zAa call31 rfl rfl rfl rfl ((c31y (fileT lo hi) p hm.cons.cons hf ht 0 hl1 gq).mono (fun v w' h => by  exact h)) ?_
  rintro _ hP ⟨B1, a1, c1, rfl, hr1, gf⟩
  replace gf := (show St _ _ (B1 ++ (_ :: _ :: F)) from gf)
  have gt := (show St _ _ (_ :: _ :: (B1 ++ (F))) from St.pk [B1, [_], [_]] [1,2,0] gf)
  refine w_p (zA3 rfl rfl) rfl (w_p (zDj rfl rfl rfl) rfl (w_p (zAk rfl rfl rfl) rfl (w_p (zBz rfl rfl) rfl (zBw rfl rfl (zAd (zAc (gD _ _ (zAf (fun hX gE => (zAb (w_p (zA2 (vs := [_,_,_,_,_]) isAgg56 sizeOf56 gt rfl rfl (aow 1 [_,_,_,_,_])) rfl ?_)))))))))))
  refine zA6 rfl rfl (zCo zAa call34 rfl rfl rfl rfl ((c34 (fileT lo hi) p hm.app.cons.cons hf ht q (by show q < 4; omega) gt).mono (fun v w' h => by rw [hask.2.2.1] at h; exact h)) (fun hY gF => ?_))
  refine w_p (zA3 rfl rfl) rfl (w_p (zDe (v := .agg _) rfl rfl rfl) rfl (w_p (zAk rfl rfl rfl) rfl (zA1 (cs := [_,_]) zAa zeroValue36 rfl gF (fun j0 j1 gG => ?_))))
  refine zBj 0 (.agg #[.int _ _, .int _ _]) [_,_] sizeOf36 gG (fun j3 gu => ?_)
  refine zBw rfl rfl (zAd (zAc (gE _ _ (zAf (fun j4 gH => (zAb (w_p (zA2 (vs := [_,_,_,_,_]) isAgg56 sizeOf56 gu rfl rfl (aow 2 [_,_,_,_,_])) rfl ?_)))))))
  refine zA4 zAa call35 rfl rfl rfl rfl ((c35 (fileT lo hi) p hm.app.cons.cons.cons hf ht gu).mono (fun v w' h => by rw [show openTo (fileT lo hi) (fileT lo hi).lots.length = [] from hask.2.2.2.1] at h; exact h)) ?_
  rintro _ j5 ⟨B2, a2, c2, rfl, hr2, gg⟩
  replace gg := (show St _ _ (B2 ++ (_ :: _ :: _ :: B1 ++ (F))) from gg)
  have gI := (show St _ _ (_ :: _ :: _ :: (B2 ++ ((B1 ++ (F))))) from St.pk [B2, [_], [_], [_], B1] [1,2,3,0,4] gg)
  refine w_p (zA3 rfl rfl) rfl (w_p (zDj rfl rfl rfl) rfl (w_p (zAk rfl rfl rfl) rfl (w_p (zBz rfl rfl) rfl (zBw rfl rfl (zAd (zAc (gH _ _ (zAf (fun j6 gJ => (zAf (fun j7 gK => (zAb (zA6 rfl rfl ?_)))))))))))))
  refine w_p (zCs rfl rfl rfl rfl) rfl (w_p (zAt rfl rfl) rfl (w_y rfl rfl rfl (zAy rfl rfl) rfl (w_y rfl rfl rfl (zCs rfl rfl rfl rfl) rfl (w_p (zBg (v := .bool _) rfl rfl rfl rfl) rfl (w_p (zAt rfl rfl) rfl ?_)))))
  refine w_y rfl rfl rfl (zAy rfl rfl) rfl ?_
  refine w_y rfl rfl rfl (zCs rfl rfl rfl rfl) rfl ?_
  refine w_p (zBg (v := .bool _) rfl rfl rfl rfl) rfl (w_p (zAt rfl rfl) rfl (w_y rfl rfl rfl (zAx rfl rfl) rfl (w_y rfl rfl rfl (zBc underlying22 rfl rfl) rfl (w_y rfl rfl rfl (zEf rfl rfl rfl rfl) rfl (w_p (zBg (v := .bool _) rfl rfl rfl rfl) rfl ?_)))))
  refine w_p (zAt rfl rfl) rfl (zB5 (fun gc => ?_) (fun gc => ?_))
  ·
   exfalso
   try simp only [zS] at gc
   simp at gc
  try simp only [zS] at gc
  refine w_y rfl rfl rfl (zAx rfl rfl) rfl ?_
  refine w_y rfl rfl rfl (zAy rfl rfl) rfl ?_
  refine zA4 (zAh rfl rfl rfl) call41 rfl rfl rfl rfl (zEo (Go.Proofs.Ur.c41 _ _ (who (fileT lo hi) 0) (by omega) (Sl.top hr1).app.cons.cons.cons (q : Int) gI) (decide_eq_true hask.2.1)) ?_
  rintro _ j8 ⟨rfl, gv⟩
  refine w_y rfl rfl rfl (zDo rfl rfl) rfl ?_
  refine w_p (zBg (v := .bool _) rfl rfl rfl rfl) rfl (w_p (zAt rfl rfl) rfl (w_y rfl rfl rfl (zAe (o := 1) (i := 1) underlying36 rfl sizeOf3 rfl rfl rfl) rfl (w_y rfl rfl rfl (zAg isAgg3 gv rfl rfl (aow 0 [_])) rfl ?_)))
  refine w_y rfl rfl rfl (zCs rfl rfl rfl rfl) rfl ?_
  refine w_p (zBg (v := .bool _) rfl rfl rfl rfl) rfl (zAd (zAc (gK _ _ (zAr rfl rfl (fun gd => ?_) (fun gd => ?_)))))
  ·
   exfalso
   try simp only [zS] at gd
   simp at gd
  try simp only [zS] at gd
  refine zAn (zAc (gJ _ _ (zAf (fun j9 gL => (zAf (fun ja gM => (zAb (zBi rfl rfl (zAd (zAc (gM _ _ (zAq ?_))))))))))))
  have gN := (show St _ _ (_ :: _ :: F) from St.pk [[_], [_], [_], B2, B1] [1,2] gv)
  refine zB6 [4,12,13,14,15,63,64,65,66,67,68,69,70,71,72,73,74,75,76,77,78,79,80,81,82,83,84,85,86,87,88,89,90,91,92,93,94,95,96,97] [12] (fun kk vs w => ∃ (i : Nat), vs = [.int .i64 (i : Int)] ∧ i ≤ 4 ∧ kk = 4 - i ∧ St w0 w ((b8, blk 36 [.int .i64 (lo : Int), .int .i64 (hi : Int)]) :: (b3, blk 56 ((fileT lo hi).cells p)) :: F)) (4) ?_ ?_
  ·
   exact ⟨0, rfl, by omega, by omega, gN⟩
  intro k vs μ jb hI jc g9
  clear hs
  obtain ⟨i, rfl, hia, rfl, hs⟩ := hI
  refine zAf (fun jd gO => (zAf (fun je gP => (zAb (zA6 rfl rfl (w_p (zAe (o := 0) (i := 0) underlying56 rfl sizeOf51 rfl rfl rfl) rfl (w_p (zAg isAgg51 hs rfl rfl (aow 1 [_])) rfl ?_)))))))
  refine w_p (zBc underlying51 rfl rfl) rfl (w_p (zCp rfl rfl rfl rfl) rfl (zAd (zAc (gP _ _ (zAr rfl rfl (fun gh => ?_) (fun gh => ?_))))))
  ·
   try simp only [zS] at gh
   refine zAn (zAc (gO _ _ (zAf (fun jf ga => (zAq ?_)))))
   refine zAf (fun jg gQ => (zAb (w_p (zA2 (vs := [_,_,_,_,_]) isAgg56 sizeOf56 hs rfl rfl (aow 1 [_,_,_,_,_])) rfl (zA6 rfl rfl ?_))))
   refine zCo zAa call32 rfl rfl rfl rfl ((c32 (fileT lo hi) p hm.cons.cons hf ht i (by show i < 4; omega) hs).mono (fun v w' h => by rw [hask.2.2.2.2 i (by omega)] at h; exact h)) (fun jh gw => ?_)
   refine w_p (zA3 rfl rfl) rfl (w_p (zAk rfl rfl rfl) rfl (w_p (zAk rfl rfl rfl) rfl (zBw rfl rfl (zBw rfl rfl (zAd (zAc (gQ _ _ (zAf (fun ji gR => (zAb (zBi rfl rfl ?_)))))))))))
   refine zAd (zAc (gR _ _ (zAf (fun jj gx => (zAf (fun jk gS => (zAb (zA6 rfl rfl (w_p (zA2 (vs := [_,_]) isAgg36 sizeOf36 gw rfl rfl (aow 0 [_,_])) rfl ?_)))))))))
   refine zCo zAa call14 rfl rfl rfl rfl (c14 _ _ _ gw) (fun jl g0 => ?_)
   refine w_p (zDo rfl rfl) rfl (zAd (zAc (gS _ _ (zAr rfl rfl (fun gi => ?_) (fun gi => ?_)))))
   ·
    try simp only [zS] at gi
    refine zAb (zBi rfl rfl (zAd (zAc (gx _ _ (zAf (fun jm gj => (zAf (fun jo gy => (zAb (w_p (zAe (o := 0) (i := 0) underlying36 rfl sizeOf3 rfl rfl rfl) rfl ?_))))))))))
    refine w_p (zAg isAgg3 g0 rfl rfl (aow 0 [_])) rfl (w_p (zAe (o := 1) (i := 1) underlying36 rfl sizeOf3 rfl rfl rfl) rfl (w_p (zAg isAgg3 g0 rfl rfl (aow 0 [_])) rfl (w_p (zCa rfl rfl rfl rfl) rfl (w_p (zAt rfl rfl) rfl ?_))))
    refine zB5 (fun gk => ?_) (fun gk => ?_)
    ·
     try simp only [zS] at gk
     refine w_y rfl rfl rfl (zAy rfl rfl) rfl ?_
     refine w_y rfl rfl rfl (zAe (o := 0) (i := 0) underlying36 rfl sizeOf3 rfl rfl rfl) rfl ?_
     refine w_y rfl rfl rfl (zAg isAgg3 g0 rfl rfl (aow 0 [_])) rfl ?_
     refine w_y rfl rfl rfl (zCa rfl rfl rfl rfl) rfl ?_
     refine w_p (zA5 (v := .bool _) rfl rfl rfl rfl) rfl (zAd (zAc (gy _ _ (zAr rfl rfl (fun gm => ?_) (fun gm => ?_)))))
     ·
      try simp only [zS] at gm
      refine zAb (zBi rfl rfl (zAd (zAc (gj _ _ (zAf (fun jp gT => (zAb (zA6 rfl rfl (w_p (zCs rfl rfl rfl rfl) rfl (w_p (zAt rfl rfl) rfl ?_))))))))))
      refine w_y rfl rfl rfl (zAy rfl rfl) rfl ?_
      refine w_y rfl rfl rfl (zAy rfl rfl) rfl ?_
      refine w_y rfl rfl rfl (zCs rfl rfl rfl rfl) rfl ?_
      refine w_p (zBg (v := .bool _) rfl rfl rfl rfl) rfl (zAd (zAc (gT _ _ (zAr rfl rfl (fun g3 => ?_) (fun g3 => ?_)))))
      ·
       exfalso
       try simp only [zS] at g3
       first | (simp at g3; done) | (split at g3 <;> (try split at g3) <;> first | omega | simp_all | (simp at g3; omega))
      try simp only [zS] at g3
      refine zAn (zAi (zAc (ga _ _ (zAb (zA6 rfl rfl (w_p (zBo rfl rfl rfl rfl (by omega) (by omega)) rfl (zBw rfl rfl (zAd (zAc (g9 _ _ (nxI (4 - (i + 1)) (by omega) ?_)))))))))))
      exact ⟨i + 1, rfl, by omega, rfl, g0⟩
     try simp only [zS] at gm
     refine zAn (zAc (gj _ _ (zAf (fun jq gU => (zAb (zA6 rfl rfl (w_p (zCs rfl rfl rfl rfl) rfl (w_p (zAt rfl rfl) rfl (w_y rfl rfl rfl (zAy rfl rfl) rfl ?_)))))))))
     refine w_y rfl rfl rfl (zAy rfl rfl) rfl ?_
     refine w_y rfl rfl rfl (zCs rfl rfl rfl rfl) rfl ?_
     refine w_p (zBg (v := .bool _) rfl rfl rfl rfl) rfl (zAd (zAc (gU _ _ (zAr rfl rfl (fun g4 => ?_) (fun g4 => ?_)))))
     ·
      exfalso
      try simp only [zS] at g4
      first | (simp at g4; done) | (split at g4 <;> (try split at g4) <;> first | omega | simp_all | (simp at g4; omega))
     try simp only [zS] at g4
     refine zAn (zAi (zAc (ga _ _ (zAb (zA6 rfl rfl (w_p (zBo rfl rfl rfl rfl (by omega) (by omega)) rfl (zBw rfl rfl (zAd (zAc (g9 _ _ (nxI (4 - (i + 1)) (by omega) ?_)))))))))))
     exact ⟨i + 1, rfl, by omega, rfl, g0⟩
    try simp only [zS] at gk
    refine zAm rfl rfl rfl ?_
    refine zAm rfl rfl rfl ?_
    refine zAm rfl rfl rfl ?_
    refine zAm rfl rfl rfl ?_
    refine w_p (zBg (v := _) rfl rfl rfl rfl) rfl (zAd (zAc (gy _ _ (zBs rfl rfl ?_))))
    refine zAn (zAc (gj _ _ (zAf (fun jr gV => (zAb (zA6 rfl rfl (w_p (zCs rfl rfl rfl rfl) rfl (w_p (zAt rfl rfl) rfl (w_y rfl rfl rfl (zAy rfl rfl) rfl ?_)))))))))
    refine w_y rfl rfl rfl (zAy rfl rfl) rfl ?_
    refine w_y rfl rfl rfl (zCs rfl rfl rfl rfl) rfl ?_
    refine w_p (zBg (v := .bool _) rfl rfl rfl rfl) rfl (zAd (zAc (gV _ _ (zAr rfl rfl (fun g5 => ?_) (fun g5 => ?_)))))
    ·
     exfalso
     try simp only [zS] at g5
     first | (simp at g5; done) | (split at g5 <;> (try split at g5) <;> first | omega | simp_all | (simp at g5; omega))
    try simp only [zS] at g5
    refine zAn (zAi (zAc (ga _ _ (zAb (zA6 rfl rfl (w_p (zBo rfl rfl rfl rfl (by omega) (by omega)) rfl (zBw rfl rfl (zAd (zAc (g9 _ _ (nxI (4 - (i + 1)) (by omega) ?_)))))))))))
    exact ⟨i + 1, rfl, by omega, rfl, g0⟩
   try simp only [zS] at gi
   refine zAn (zAc (gx _ _ (zAf (fun js gn => (zAf (fun jt gz => (zAb (w_p (zAe (o := 0) (i := 0) underlying36 rfl sizeOf3 rfl rfl rfl) rfl (w_p (zAg isAgg3 g0 rfl rfl (aow 0 [_])) rfl ?_)))))))))
   refine w_p (zAe (o := 1) (i := 1) underlying36 rfl sizeOf3 rfl rfl rfl) rfl (w_p (zAg isAgg3 g0 rfl rfl (aow 0 [_])) rfl (w_p (zCa rfl rfl rfl rfl) rfl (w_p (zAt rfl rfl) rfl ?_)))
   refine zB5 (fun go => ?_) (fun go => ?_)
   ·
    try simp only [zS] at go
    refine w_y rfl rfl rfl (zAy rfl rfl) rfl ?_
    refine w_y rfl rfl rfl (zAe (o := 0) (i := 0) underlying36 rfl sizeOf3 rfl rfl rfl) rfl ?_
    refine w_y rfl rfl rfl (zAg isAgg3 g0 rfl rfl (aow 0 [_])) rfl ?_
    refine w_y rfl rfl rfl (zCa rfl rfl rfl rfl) rfl ?_
    refine w_p (zA5 (v := .bool _) rfl rfl rfl rfl) rfl (zAd (zAc (gz _ _ (zAr rfl rfl (fun gp => ?_) (fun gp => ?_)))))
    ·
     try simp only [zS] at gp
     refine zAb (zBi rfl rfl (zAd (zAc (gn _ _ (zAf (fun ju gW => (zAb (zA6 rfl rfl (w_p (zCs rfl rfl rfl rfl) rfl (w_p (zAt rfl rfl) rfl ?_))))))))))
     refine w_y rfl rfl rfl (zAy rfl rfl) rfl ?_
     refine w_y rfl rfl rfl (zAy rfl rfl) rfl ?_
     refine w_y rfl rfl rfl (zCs rfl rfl rfl rfl) rfl ?_
     refine w_p (zBg (v := .bool _) rfl rfl rfl rfl) rfl (zAd (zAc (gW _ _ (zAr rfl rfl (fun g6 => ?_) (fun g6 => ?_)))))
     ·
      exfalso
      try simp only [zS] at g6
      first | (simp at g6; done) | (split at g6 <;> (try split at g6) <;> first | omega | simp_all | (simp at g6; omega))
     try simp only [zS] at g6
     refine zAn (zAi (zAc (ga _ _ (zAb (zA6 rfl rfl (w_p (zBo rfl rfl rfl rfl (by omega) (by omega)) rfl (zBw rfl rfl (zAd (zAc (g9 _ _ (nxI (4 - (i + 1)) (by omega) ?_)))))))))))
     exact ⟨i + 1, rfl, by omega, rfl, g0⟩
    try simp only [zS] at gp
    refine zAn (zAc (gn _ _ (zAf (fun jv gX => (zAb (zA6 rfl rfl (w_p (zCs rfl rfl rfl rfl) rfl (w_p (zAt rfl rfl) rfl (w_y rfl rfl rfl (zAy rfl rfl) rfl ?_)))))))))
    refine w_y rfl rfl rfl (zAy rfl rfl) rfl ?_
    refine w_y rfl rfl rfl (zCs rfl rfl rfl rfl) rfl ?_
    refine w_p (zBg (v := .bool _) rfl rfl rfl rfl) rfl (zAd (zAc (gX _ _ (zAr rfl rfl (fun g7 => ?_) (fun g7 => ?_)))))
    ·
     exfalso
     try simp only [zS] at g7
     first | (simp at g7; done) | (split at g7 <;> (try split at g7) <;> first | omega | simp_all | (simp at g7; omega))
    try simp only [zS] at g7
    refine zAn (zAi (zAc (ga _ _ (zAb (zA6 rfl rfl (w_p (zBo rfl rfl rfl rfl (by omega) (by omega)) rfl (zBw rfl rfl (zAd (zAc (g9 _ _ (nxI (4 - (i + 1)) (by omega) ?_)))))))))))
    exact ⟨i + 1, rfl, by omega, rfl, g0⟩
   try simp only [zS] at go
   refine zAm rfl rfl rfl ?_
   refine zAm rfl rfl rfl ?_
   refine zAm rfl rfl rfl ?_
   refine zAm rfl rfl rfl ?_
   refine w_p (zBg (v := _) rfl rfl rfl rfl) rfl (zAd (zAc (gz _ _ (zBs rfl rfl ?_))))
   refine zAn (zAc (gn _ _ (zAf (fun jw gY => (zAb (zA6 rfl rfl (w_p (zCs rfl rfl rfl rfl) rfl (w_p (zAt rfl rfl) rfl (w_y rfl rfl rfl (zAy rfl rfl) rfl ?_)))))))))
   refine w_y rfl rfl rfl (zAy rfl rfl) rfl ?_
   refine w_y rfl rfl rfl (zCs rfl rfl rfl rfl) rfl ?_
   refine w_p (zBg (v := .bool _) rfl rfl rfl rfl) rfl (zAd (zAc (gY _ _ (zAr rfl rfl (fun g8 => ?_) (fun g8 => ?_)))))
   ·
    exfalso
    try simp only [zS] at g8
    first | (simp at g8; done) | (split at g8 <;> (try split at g8) <;> first | omega | simp_all | (simp at g8; omega))
   try simp only [zS] at g8
   refine zAn (zAi (zAc (ga _ _ (zAb (zA6 rfl rfl (w_p (zBo rfl rfl rfl rfl (by omega) (by omega)) rfl (zBw rfl rfl (zAd (zAc (g9 _ _ (nxI (4 - (i + 1)) (by omega) ?_)))))))))))
   exact ⟨i + 1, rfl, by omega, rfl, g0⟩
  try simp only [zS] at gh
  refine zBt (zAj (zAj (zAv (zAc (gL _ _ (zAf (fun jx gZ => (zAb (zBi rfl rfl (zAd (zAc (gZ _ _ (zA8 (zBa (l := [.tmp 4]) (vs := [_]) rfl ⟨⟨rfl, (rfl : _ = Value.bool _)⟩, trivial⟩ ?_))))))))))))))
  exact ⟨rfl, hs.tail.tail⟩

end Go.Proofs.Uc
/- Plain words of the statement about turned lots and claims: the hour at which a lot turns in a truth lies in what Turns says. No conditions. -/
namespace Go.Rt.Tu
open Go.Rt.Ha (firstE failE felt spanL upto bit listL Bunch)
def Bds (M : Int) (l : List Int) : Prop := ∀ i, 0 ≤ l.getD i 0 ∧ l.getD i 0 ≤ M
theorem bds_set {M : Int} {l : List Int} (h : Bds M l) {i : Nat} {z : Int} (hz : 0 ≤ z ∧ z ≤ M) : Bds M (l.set i z) := by
  intro j
  by_cases e : i = j
  · subst e
    by_cases hl : i < l.length
    · rw [List.getD, List.getElem?_set_self hl]; exact hz
    · rw [List.set_eq_of_length_le (by omega)]; exact h i
  · rw [List.getD, List.getElem?_set_ne e]; exact h j
theorem turn_bds {M : Int} (c : Cargo) (s : List Int) {h : Nat} (hh : (h : Int) ≤ M) (left t0 : List Int) (h0 : Bds M t0) : ∀ k, Bds M (turnTo c s h left t0 k).1
  | 0 => h0
  | k + 1 => by
    have ih := turn_bds c s hh left t0 h0 k
    rw [turnTo, turnStep]
    split
    · exact bds_set ih ⟨by have := (ih k).1; omega, by omega⟩
    · exact ih
theorem hour_bds (c : Cargo) (s : List Int) : ∀ h, h ≤ c.heat.length → Bds (never c) (hourTo c s h).1
  | 0, _ => by
    intro i
    show 0 ≤ (List.replicate 5 (never c)).getD i 0 ∧ _
    have hn : 0 ≤ never c := by unfold never; omega
    rw [show (hourTo c s 0).1 = List.replicate 5 (never c) from rfl, List.getD, List.getElem?_replicate]
    split <;> simp [hn]
  | h + 1, hh => by
    have ih := hour_bds c s h (by omega)
    exact turn_bds c s (by unfold never; omega) _ _ ih _
theorem tof_bds (c : Cargo) (s : List Int) (i : Nat) : 0 ≤ tOf c s i ∧ tOf c s i ≤ never c :=
  turn_bds c s (by unfold never; omega) _ _ (hour_bds c s _ (Nat.le_refl _)) _ i
def TInv (c : Cargo) (a : (Int × Int) × Bool) : Prop := a.2 = false → 0 ≤ a.1.1 ∧ a.1.1 ≤ a.1.2 ∧ a.1.2 ≤ c.heat.length
theorem tinv_st {c : Cargo} {n : Nat} {a : (Int × Int) × Bool} (h : TInv c a) (s : List Int) : TInv c (turnsSt c n a s) := by
  have hb := tof_bds c s n
  have hn : never c = c.heat.length + 1 := rfl
  unfold turnsSt
  split
  · exact h
  · split
    · intro _; dsimp only; omega
    · rename_i h1 h2
      have h3 := h (by simpa using h2)
      intro _; dsimp only; omega
def Has (a : (Int × Int) × Bool) (x : Int) : Prop := a.2 = false ∧ a.1.1 ≤ x ∧ x ≤ a.1.2
theorem has_st {c : Cargo} {n : Nat} {a : (Int × Int) × Bool} {x : Int} (h : Has a x) (s : List Int) : Has (turnsSt c n a s) x := by
  obtain ⟨h1, h2, h3⟩ := h
  unfold turnsSt
  split
  · exact ⟨h1, h2, h3⟩
  · rw [if_neg (by simp [h1])]
    exact ⟨rfl, by dsimp only; omega, by dsimp only; omega⟩
theorem has_new {c : Cargo} {n : Nat} (a : (Int × Int) × Bool) {s : List Int} (h : tOf c s n ≠ never c) : Has (turnsSt c n a s) (tOf c s n) := by
  unfold turnsSt
  rw [if_neg h]
  split
  · exact ⟨rfl, by dsimp only; omega, by dsimp only; omega⟩
  · exact ⟨rfl, by dsimp only; omega, by dsimp only; omega⟩
theorem tinv_fold {c : Cargo} {n : Nat} : ∀ (l : List (List Int)) (a : (Int × Int) × Bool), TInv c a → TInv c (l.foldl (turnsSt c n) a)
  | [], a, h => h
  | s :: l, a, h => tinv_fold l _ (tinv_st h s)
theorem has_fold {c : Cargo} {n : Nat} {x : Int} : ∀ (l : List (List Int)) (a : (Int × Int) × Bool), Has a x → Has (l.foldl (turnsSt c n) a) x
  | [], a, h => h
  | s :: l, a, h => has_fold l _ (has_st h s)
theorem has_in {c : Cargo} {n : Nat} {s : List Int} (hs : tOf c s n ≠ never c) : ∀ (l : List (List Int)) (a : (Int × Int) × Bool), s ∈ l → Has (l.foldl (turnsSt c n) a) (tOf c s n)
  | [], a, h => by simp at h
  | t :: l, a, h => by
    rcases List.mem_cons.1 h with rfl | h
    · exact has_fold l _ (has_new a hs)
    · exact has_in hs l _ h
theorem ask_must {c : Cargo} {hold : Nat} {q : List Int → Bool} {s : List Int} (hs : s ∈ truths c 0 hold) (hq : q s = false) : ask c hold q ≠ 1 := by
  unfold ask askOf
  have h : ((truths c 0 hold).filter q).length ≠ (truths c 0 hold).length := fun e => by
    have := (List.length_filter_eq_length_iff.1 e) s hs
    rw [hq] at this; cases this
  rw [if_neg h]
  split <;> decide
theorem ask_may {c : Cargo} {hold : Nat} {q : List Int → Bool} {s : List Int} (hs : s ∈ truths c 0 hold) (hq : q s = true) : ask c hold q ≠ 2 := by
  unfold ask askOf
  have h : ((truths c 0 hold).filter q).length ≠ 0 := fun e => by
    have h1 := List.eq_nil_of_length_eq_zero e
    have h2 := List.mem_filter.2 ⟨hs, hq⟩
    rw [h1] at h2; simp at h2
  split
  · decide
  · decide
theorem hold_of {c : Cargo} (hc : c.Ok) {n : Nat} (hn : n < c.lots.length) : c.lots[n].hold = ((holdOf c n : Nat) : Int) ∧ holdOf c n < c.holds.length := by
  have h := (hc.lot _ (List.getElem_mem hn)).hold
  unfold holdOf
  rw [zC5 hn]
  omega
theorem ways_pos {c : Cargo} (hc : c.Ok) (hso : someB c 0 = true) {n : Nat} (hn : n < c.lots.length) : 0 < (waysR c (holdOf c n)).length := by
  rw [ways_len hc (hold_of hc hn).2]
  exact some_at (hold_of hc hn).2 hso
theorem turns_law {c : Cargo} (hck : (check c).2.2 = 0) (hso : someB c 0 = true) {n : Nat} (hn : n < c.lots.length) {k : Nat} (hk : k < (waysR c (holdOf c n)).length) {H : Int} (hH : H = (rTimes c (ofR c ((holdOf c n : Nat) : Int)) ((waysR c (holdOf c n))[k]).1 ((waysR c (holdOf c n))[k]).2).getD n 0) :
    (turnsP c (n : Int)).2.2 = 0 ∧ (H = never c → (turnsP c (n : Int)).2.1 ≠ 1) ∧ (H ≠ never c → (turnsP c (n : Int)).2.1 ≠ 2 ∧ 0 ≤ (turnsP c (n : Int)).1.1 ∧ (turnsP c (n : Int)).1.1 ≤ H ∧ H ≤ (turnsP c (n : Int)).1.2 ∧ (turnsP c (n : Int)).1.2 ≤ c.heat.length) := by
  have hc := zEe hck
  obtain ⟨h1, h2⟩ := hold_of hc hn
  have hx := List.getElem_mem hk
  have hal := all_in (List.mem_filter.1 hx).1
  have hts := truths_ref hc h2
  have hin : mkS (holdOf c n) ((waysR c (holdOf c n))[k]).1 (ofH c (holdOf c n)) ((waysR c (holdOf c n))[k]).2 ∈ truths c 0 (holdOf c n) := by
    rw [hts]; exact List.mem_map.2 ⟨_, hx, rfl⟩
  have hti := time_same hc h2 (w := ((waysR c (holdOf c n))[k]).1) hal.1 hn (by rw [zC5 hn]; exact h1)
  rw [← hH] at hti
  generalize hs : mkS (holdOf c n) ((waysR c (holdOf c n))[k]).1 (ofH c (holdOf c n)) ((waysR c (holdOf c n))[k]).2 = s at hin hti
  have he : enterE c [noneA c.lots.length [(n : Int)]] = 0 := zHw hck (by
    have ho : out 0 ((c.lots.length : Int) - 1) (n : Int) = false := by rw [zIy]; omega
    simp [anyAsk, noneA, ho]) hso
  have hT : turnsP c (n : Int) = ((turnsA c n (truths c 0 (holdOf c n))).1, ask c (holdOf c n) (turnsQ c n), 0) := by
    unfold turnsP
    rw [if_neg (by rw [he]; simp), Int.toNat_natCast]
  rw [hT]
  refine ⟨rfl, fun h => ?_, fun h => ?_⟩
  · exact ask_must hin (by unfold turnsQ; rw [hti, h]; simp)
  · have hne : tOf c s n ≠ never c := by rw [hti]; exact h
    have ha := has_in hne (truths c 0 (holdOf c n)) ((0,0), true) hin
    have hb := tinv_fold (c := c) (n := n) (truths c 0 (holdOf c n)) ((0,0), true) (fun h => by cases h) ha.1
    refine ⟨ask_may hin (by unfold turnsQ; simp [hne]), ?_⟩
    show 0 ≤ (turnsA c n (truths c 0 (holdOf c n))).1.1 ∧ (turnsA c n (truths c 0 (holdOf c n))).1.1 ≤ H ∧ H ≤ (turnsA c n (truths c 0 (holdOf c n))).1.2 ∧ (turnsA c n (truths c 0 (holdOf c n))).1.2 ≤ c.heat.length
    unfold turnsA
    rw [hti] at ha
    exact ⟨hb.1, ha.2.1, ha.2.2, hb.2.2⟩
theorem quo_party {a b x : Int} {g : Int} (hg : 1 ≤ g) (h0 : 0 ≤ a) (h1 : a ≤ x) (h2 : x ≤ b) : 0 ≤ min 3 (a / g) ∧ min 3 (a / g) ≤ min 3 (x / g) ∧ min 3 (x / g) ≤ min 3 (b / g) ∧ min 3 (b / g) ≤ 3 := by
  have e1 := Int.ediv_nonneg h0 (show 0 ≤ g by omega)
  have e2 := Int.ediv_le_ediv (show 0 < g by omega) h1
  have e3 := Int.ediv_le_ediv (show 0 < g by omega) h2
  omega
end Go.Rt.Tu
set_option maxRecDepth 20000
namespace Go.Proofs.Tt
open Go.Proofs.Tryz
open Go.Rt Go.Rt.Tu
attribute [local irreducible] WL WC Con Yd At Ats Sl Agree DW
theorem Try_TA_fb0 (x0 : Int) (x1 : Int) (w : World) : (Instr.build 36 [(0, .int .i64 x0),(1, .int .i64 x1)].toArray).run Tryz.prog w = .ok (.agg #[.int .i64 x0, .int .i64 x1]) w := by kernel_rfl
theorem zCl {P : Program} {a : Act} {o : Oper} {w : World} {x y : Option Addr} {l c : Nat} (h : x = y) (hy : Yd P a o w (.slice x l c)) : Yd P a o w (.slice y l c) := h ▸ hy
theorem zGj {P : Program} {a : Act} {o : Oper} {w : World} {k : IntKind} {z z' : Int} (h : z = z') (hy : Yd P a o w (.int k z)) : Yd P a o w (.int k z') := h ▸ hy
theorem own_numsT {w0 : World} {v : Value} {t : TypeId} {l : List Int} {B : List (Nat × Obj)} (h : Rt.Own v t 1 l.length (iv l) B) : ∃ a c, v = .slice a l.length c ∧ Sl w0 B a 1 (l.map fun x => [Value.int .i64 x]) := by
  obtain ⟨a, c, h1, h2⟩ := zE6 (w0 := w0) h rfl []
  rw [List.append_nil] at h2
  exact ⟨a, c, h1, h2⟩
theorem c3 {w0 w : World} {F : List (Nat × Obj)} (c : Cargo) (p : AtT) (hm : Ut.TIn w0 F c p) (x0 x1 y : Int) (hx0 : 0 ≤ x0 ∧ x0 ≤ 255) (hx1 : 0 ≤ x1 ∧ x1 ≤ 255) (hy : 0 ≤ y ∧ y ≤ 65535) (hs : St w0 w F) :
  Con Tryz.prog 3 [.agg (c.cells p).toArray, .agg #[.int .u8 x0, .int .u8 x1], .int .u16 y] w fun v w' => v = .bool true ∧ St w0 w' F := by
  refine zAo (n := 156) func3 rfl rfl (zNl rfl) ?_
  refine zAf (fun K2 gB => (zAb (zCj (v := .agg #[.slice _ _ _, .int _ _, .slice _ _ _, .slice _ _ _, .slice _ _ _]) (cs := [_,_,_,_,_]) zAa rfl rfl rfl hs (fun b3 w4 gC => ?_))))
  refine zCj (v := .agg #[.int _ _, .int _ _]) (cs := [_,_]) zAa rfl rfl rfl gC (fun b6 w7 gp => ?_)
  refine zBi rfl rfl (zAd (zAc (gB _ _ (zAf (fun j6 gD => (zAb (w_p (zA2 (vs := [_,_,_,_,_]) isAgg27 sizeOf27 gp rfl rfl (aow 1 [_,_,_,_,_])) rfl ?_)))))))
  refine zCo zAa call4 rfl rfl rfl rfl (Ur.c4 c p hm.cons.cons gp) (fun j7 g4 => ?_)
  refine w_p (zA3 rfl rfl) rfl (w_p (zAk rfl rfl rfl) rfl (w_p (zAk rfl rfl rfl) rfl (w_p (zAk rfl rfl rfl) rfl (zBw rfl rfl (zBw rfl rfl (zBw rfl rfl (zAd (zAc (gD _ _ (zAf (fun j8 gE => (zAf (fun j9 gh => (zAb (zA6 rfl rfl ?_)))))))))))))))
  refine w_p (zCs rfl rfl rfl rfl) rfl (w_p (zAt rfl rfl) rfl (zB5 (fun gi => ?_) (fun gi => ?_)))
  ·
   try simp only [zS] at gi
   refine zAm rfl rfl rfl ?_
   refine zAm rfl rfl rfl ?_
   refine zAm rfl rfl rfl ?_
   refine zAm rfl rfl rfl ?_
   refine w_p (zA5 (v := _) rfl rfl rfl rfl) rfl (w_p (zAt rfl rfl) rfl (zAm rfl rfl rfl ?_))
   refine zAm rfl rfl rfl ?_
   refine zAm rfl rfl rfl ?_
   refine w_p (zA5 (v := _) rfl rfl rfl rfl) rfl (zAd (zAc (gh _ _ (zDb rfl rfl ?_))))
   refine zAf (fun ja gF => (zAb (zCo zAa call6 rfl rfl rfl rfl (Ut.c6 g4) (fun jb gG => ?_))))
   refine w_p (zAt rfl rfl) rfl (zA4 (zAh rfl rfl rfl) call7 rfl rfl rfl rfl (Uc.c7 gG) ?_)
   rintro _ jc ⟨rfl, gH⟩
   refine w_p (zA5 (v := .bool _) rfl rfl rfl rfl) rfl (w_p (zAs rfl rfl) rfl (zAd (zAc (gF _ _ (zA8 (zAl (zBa (l := [.tmp 6]) (vs := [_]) rfl ⟨⟨rfl, (rfl : _ = Value.bool _)⟩, trivial⟩ ?_)))))))
   exact ⟨rfl, gH.tail.tail⟩
  try simp only [zS] at gi
  refine w_y rfl rfl rfl (zAe (o := 3) (i := 3) underlying27 rfl sizeOf24 rfl rfl rfl) rfl ?_
  refine w_y rfl rfl rfl (zAg isAgg24 g4 rfl rfl (aow 1 [_])) rfl ?_
  refine w_y rfl rfl rfl (zBc underlying24 rfl rfl) rfl ?_
  refine w_y rfl rfl rfl (zCa rfl rfl rfl rfl) rfl ?_
  refine w_p (zBg (v := .bool _) rfl rfl rfl rfl) rfl (w_p (zAt rfl rfl) rfl (zB5 (fun gj => ?_) (fun gj => ?_)))
  ·
   try simp only [zS] at gj
   refine zAm rfl rfl rfl ?_
   refine zAm rfl rfl rfl ?_
   refine zAm rfl rfl rfl ?_
   refine w_p (zA5 (v := _) rfl rfl rfl rfl) rfl (zAd (zAc (gh _ _ (zDb rfl rfl ?_))))
   refine zAf (fun jd gI => (zAb (zCo zAa call6 rfl rfl rfl rfl (Ut.c6 g4) (fun je gJ => ?_))))
   refine w_p (zAt rfl rfl) rfl (zA4 (zAh rfl rfl rfl) call7 rfl rfl rfl rfl (Uc.c7 gJ) ?_)
   rintro _ jf ⟨rfl, gK⟩
   refine w_p (zA5 (v := .bool _) rfl rfl rfl rfl) rfl (w_p (zAs rfl rfl) rfl (zAd (zAc (gI _ _ (zA8 (zAl (zBa (l := [.tmp 6]) (vs := [_]) rfl ⟨⟨rfl, (rfl : _ = Value.bool _)⟩, trivial⟩ ?_)))))))
   exact ⟨rfl, gK.tail.tail⟩
  try simp only [zS] at gj
  refine w_y rfl rfl rfl (zA2 (vs := [_,_,_,_,_]) isAgg27 sizeOf27 g4 rfl rfl (aow 1 [_,_,_,_,_])) rfl ?_
  refine zA4 (zAh rfl rfl rfl) call5 rfl rfl rfl rfl (Ur.c5 c p hm.cons.cons (zEe (by assumption)) g4) ?_
  rintro _ jg ⟨rfl, gq⟩
  refine w_y rfl rfl rfl (zDo rfl rfl) rfl ?_
  refine w_p (zBg (v := .bool _) rfl rfl rfl rfl) rfl (zAd (zAc (gh _ _ (zAr rfl rfl (fun gk => ?_) (fun gk => ?_)))))
  ·
   try simp only [zS] at gk
   refine zAf (fun jh gL => (zAb (zCo zAa call6 rfl rfl rfl rfl (Ut.c6 gq) (fun ji gM => ?_))))
   refine w_p (zAt rfl rfl) rfl (zA4 (zAh rfl rfl rfl) call7 rfl rfl rfl rfl (Uc.c7 gM) ?_)
   rintro _ jj ⟨rfl, gN⟩
   refine w_p (zA5 (v := .bool _) rfl rfl rfl rfl) rfl (w_p (zAs rfl rfl) rfl (zAd (zAc (gL _ _ (zA8 (zAl (zBa (l := [.tmp 6]) (vs := [_]) rfl ⟨⟨rfl, (rfl : _ = Value.bool _)⟩, trivial⟩ ?_)))))))
   exact ⟨rfl, gN.tail.tail⟩
  try simp only [zS] at gk
  refine zAn (zAc (gE _ _ (zAf (fun jk gO => ?_))))
  have hck : (check c).2.2 = 0 := by assumption
  have hso : someB c 0 = true := by assumption
  have hc := zEe hck
  have hll := hc.ll
  have hle8 := hc.le
  have hl0 : 0 < c.lots.length := by omega
  have hzma := Int.emod_nonneg x0 (show (c.lots.length : Int) ≠ 0 by omega)
  have hzla := Int.emod_lt_of_pos x0 (show 0 < (c.lots.length : Int) by omega)
  obtain ⟨n, hn⟩ : ∃ n : Nat, x0 % (c.lots.length : Int) = (n : Int) := ⟨(x0 % (c.lots.length : Int)).toNat, by omega⟩
  have hn2 : n < c.lots.length := by omega
  have hho := hold_of hc hn2
  have hwp := ways_pos hc hso hn2
  obtain ⟨bx, ox, hbx, hlx⟩ := Ut.sl_lrows hm.l hn2
  have hzmb := Int.emod_nonneg x1 (show (8 : Int) ≠ 0 by omega)
  have hzlb := Int.emod_lt_of_pos x1 (show 0 < (8 : Int) by omega)
  refine zCq [] [(0,0),(1,1),(2,0),(3,0),(4,1),(5,0),(6,0),(7,0),(8,1),(9,0),(10,0),(11,0),(12,0),(13,0)] zB4 (zBk (by kernel_rfl)) gq (fun jl g0 => ?_)
  refine d_w rfl (fun _ => zCw underlying28 sizeOf5 rfl rfl rfl rfl (i := 0) rfl (by omega)) rfl ?_
  refine zAz rfl zAa rfl g0 (fun _ hq => (zAg isAgg5 hq rfl rfl (aow 0 [_]))) ?_
  refine d_w rfl (fun _ => y_u8int (by rw [underlying5]; rfl) underlying3 rfl rfl (by omega) (by omega)) rfl ?_
  refine d_w rfl (fun _ => zAe (o := 3) (i := 3) underlying27 rfl sizeOf24 rfl rfl rfl) rfl ?_
  refine zAz rfl zAa rfl g0 (fun _ hq => (zAg isAgg24 hq rfl rfl (aow 1 [_]))) ?_
  refine d_w rfl (fun _ => zBc underlying24 rfl rfl) rfl (d_w rfl (fun _ => zGj (z' := ((n : Nat) : Int)) hn (y_rem rfl rfl rfl rfl (by omega) (by omega))) rfl (d_w rfl (fun _ => zCw underlying28 sizeOf5 rfl rfl rfl rfl (i := 1) rfl (by omega)) rfl ?_))
  refine zAz rfl zAa rfl g0 (fun _ hq => (zAg isAgg5 hq rfl rfl (aow 0 [_]))) ?_
  refine d_w rfl (fun _ => y_u8int (by rw [underlying5]; rfl) underlying3 rfl rfl (by omega) (by omega)) rfl ?_
  refine d_w rfl (fun _ => y_rem rfl rfl rfl rfl (by omega) (by omega)) rfl (d_w rfl (fun _ => zBo rfl rfl rfl rfl (by omega) (by omega)) rfl (d_w rfl (fun _ => zA0 rfl rfl) rfl (d_w rfl (fun _ => zA0 rfl rfl) rfl ?_)))
  refine zBm ?_
  refine zAc (gO _ _ (zAf (fun jm gP => (zAb (w_p (zAe (o := 3) (i := 3) underlying27 rfl sizeOf24 rfl rfl rfl) rfl (w_p (zCl hbx (zAg isAgg24 g0 rfl rfl (aow 1 [_]))) rfl ?_))))))
  refine zA6 rfl rfl (w_p (zA7 underlying24 sizeOf38 rfl rfl rfl rfl (i := n) rfl hn2) rfl (w_p (zAe (o := 0) (i := 0) underlying38 rfl sizeOf3 rfl rfl rfl) rfl (w_p (zGj (z' := ((holdOf c n : Nat) : Int)) hho.1 (zAg isAgg3 g0.tail.tail rfl rfl (show Ats _ _ _ _ [_] from Ats.part hlx 0 1))) rfl ?_)))
  refine zBw rfl rfl (zAd (zAc (gP _ _ (zAf (fun jo gQ => (zAb (w_p (zA2 (vs := [_,_,_,_,_]) isAgg27 sizeOf27 g0 rfl rfl (aow 1 [_,_,_,_,_])) rfl (zA6 rfl rfl ?_))))))))
  refine zA4 zAa call8 rfl rfl rfl rfl (Ur.c8 c p hm.cons.cons hc (holdOf c n) hho.2 g0) ?_
  rintro _ jp ⟨WB, wvs, aW, cW, rfl, hslW, hwlW, gm⟩
  replace gm := (show St _ _ (WB ++ (_ :: _ :: F)) from gm)
  have gR := (show St _ _ (_ :: _ :: (WB ++ (F))) from St.pk [WB, [_], [_]] [1,2,0] gm)
  refine w_p (zBz rfl rfl) rfl (zAd (zAc (gQ _ _ (zAf (fun jq gS => ?_)))))
  have hzmc := Int.emod_nonneg y (show ((waysR c (holdOf c n)).length : Int) ≠ 0 by omega)
  have hzlc := Int.emod_lt_of_pos y (show 0 < ((waysR c (holdOf c n)).length : Int) by omega)
  obtain ⟨m, hmm⟩ : ∃ m : Nat, y % ((waysR c (holdOf c n)).length : Int) = (m : Int) := ⟨(y % ((waysR c (holdOf c n)).length : Int)).toNat, by omega⟩
  have hm2 : m < (waysR c (holdOf c n)).length := by omega
  obtain ⟨bw, ow, aX, cX, haW, hx0, hsx0, hnx⟩ := Ur.wl_at hslW hwlW hm2
  subst haW
  have hx := hx0.top (F := F)
  have hin := all_in (List.mem_filter.1 (List.getElem_mem hm2)).1
  have hg5 := zGf hc hin.1
  have hhd := hc.hold _ (List.getElem_mem hho.2)
  rw [← zIj hho.2] at hhd
  have hol := ofR_len c ((holdOf c n : Nat) : Int) c.lots.length
  have hxl := hg5.1
  obtain ⟨H, hH⟩ : ∃ H, H = (rTimes c (ofR c ((holdOf c n : Nat) : Int)) ((waysR c (holdOf c n))[m]'hm2).1 ((waysR c (holdOf c n))[m]'hm2).2).getD n 0 := ⟨_, rfl⟩
  refine zCq [] [(0,1),(1,1),(2,0),(4,0),(5,0),(6,0),(7,0),(8,0),(9,0),(10,0),(11,1),(13,0),(3,2),(12,2),(14,0),(15,2),(16,0)] zB4 (zBk (by kernel_rfl)) gR (fun jr g6 => ?_)
  refine zAz rfl zAa rfl g6 (fun _ hq => (zA2 (vs := [_,_,_,_,_]) isAgg27 sizeOf27 hq rfl rfl (aow 1 [_,_,_,_,_]))) ?_
  refine zAz rfl zAa rfl g6 (fun _ hq => (zA2 (vs := [_,_,_,_,_]) isAgg27 sizeOf27 hq rfl rfl (aow 1 [_,_,_,_,_]))) ?_
  refine d_w rfl (fun _ => zAy rfl rfl) rfl (d_w rfl (fun _ => zAx rfl rfl) rfl (d_w rfl (fun _ => zAy rfl rfl) rfl (d_w rfl (fun _ => y_u16int (by rw [underlying29]; rfl) underlying3 rfl rfl (by omega) (by omega)) rfl ?_)))
  refine d_w rfl (fun _ => zAx rfl rfl) rfl (d_w rfl (fun _ => zBc underlying39 rfl rfl) rfl (d_w rfl (fun _ => y_rem rfl rfl rfl rfl (by omega) (by omega)) rfl (d_w rfl (fun _ => zA7 underlying39 sizeOf44 rfl rfl rfl rfl (i := m) hmm hm2) rfl ?_)))
  refine zAz rfl zAa rfl g6 (fun _ hq => (zA2 (vs := [_,_]) isAgg44 sizeOf44 hq.tail.tail rfl rfl hx)) ?_
  refine d_w rfl (fun _ => zAy rfl rfl) rfl ?_
  refine zBh rfl ?_
  refine zA4 zAa call10 rfl rfl rfl rfl (Ur.c10 c p hm.app.cons.cons hc ((holdOf c n : Nat) : Int) g6) ?_
  rintro _ js ⟨GB, hownG, g7⟩
  replace g7 := (show St _ _ (GB ++ (_ :: _ :: WB ++ (F))) from g7)
  obtain ⟨aG, cG, rfl, hslG⟩ := own_numsT (w0 := w0) hownG
  refine zAd (qn ⟨g7.drop, ?_⟩)
  refine zBh rfl ?_
  refine zA4 zAa call9 rfl rfl rfl rfl (Ur.c9 c p hm.app.cons.cons.app hc aG cG (ofR c ((holdOf c n : Nat) : Int)) (by unfold ofR; omega) (Sl.top hslG) (ofR_lis _ _) _ (by omega) _ _ _ (Sl.top hsx0).cons.cons.app hnx hg5.1 hg5.2 g7) ?_
  rintro _ jt ⟨bT, rfl, g3⟩
  replace g3 := (show St _ _ (_ :: GB ++ (_ :: _ :: WB ++ (F))) from g3)
  obtain ⟨bn, on, hbn, hTn⟩ := zCx (i := n) (zFx (w0 := w0) (L := (_ :: (GB ++ (_ :: _ :: (WB ++ (F)))))) (i := 0) (l := (rTimes c (ofR c ((holdOf c n : Nat) : Int)) ((waysR c (holdOf c n))[m]'hm2).1 ((waysR c (holdOf c n))[m]'hm2).2)) rfl) (by rw [zIb]; exact hn2)
  cases hbn
  refine zAd (qn ⟨g3.tail.drop, ?_⟩)
  refine d_w rfl (fun _ => zA7 underlying22 sizeOf3 rfl rfl rfl rfl (i := n) rfl hn2) rfl ?_
  refine zBh rfl ?_
  refine w_p (zGj (z' := H) (by rw [hH]; first | done | simp [List.getD, zIb, hn2]) (zAg isAgg3 g3 rfl rfl hTn)) rfl ?_
  refine zAd (qn ⟨g3.tail.drop, ?_⟩)
  refine d_w rfl (fun _ => zA0 rfl rfl) rfl ?_
  refine zBm ?_
  refine zAc (gS _ _ (zAf (fun ju gT => ?_)))
  have gt := (show St _ _ (_ :: _ :: _ :: (GB ++ ((WB ++ (F))))) from St.pk [[_], GB, [_], [_], WB] [0,2,3,1,4] g3)
  have htl := turns_law hck hso hn2 hm2 hH
  refine zAb (w_p (zA2 (vs := [_,_,_,_,_]) isAgg27 sizeOf27 gt rfl rfl (aow 2 [_,_,_,_,_])) rfl (zA6 rfl rfl ?_))
  refine zCo zAa call11 rfl rfl rfl rfl (Ut.c11 c p hm.app.app.cons.cons.cons (n : Int) gt) (fun jv gU => ?_)
  refine w_p (zA3 rfl rfl) rfl (w_p (zDe (v := .agg _) rfl rfl rfl) rfl (w_p (zAk rfl rfl rfl) rfl (w_p (zAk rfl rfl rfl) rfl (zA1 (cs := [_,_]) zAa zeroValue36 rfl gU (fun jw jx gV => ?_)))))
  refine zBj 0 (.agg #[.int _ _, .int _ _]) [_,_] sizeOf36 gV (fun jy gu => ?_)
  refine zBw rfl rfl (zBw rfl rfl (zAd (zAc (gT _ _ (zAf (fun jz gW => (zAf (fun jA gX => (zAb (zA6 rfl rfl (w_p (zCs rfl rfl rfl rfl) rfl ?_)))))))))))
  refine zAd (zAc (gX _ _ (zAr rfl rfl (fun g8 => ?_) (fun g8 => ?_))))
  ·
   exfalso
   try simp only [zS] at g8
   exact g8 htl.1
  try simp only [zS] at g8
  refine zAn (zAc (gW _ _ (zAf (fun jB gY => (zAf (fun jC gZ => (zAb (zA6 rfl rfl (w_p (zA2 (vs := [_,_,_,_,_]) isAgg27 sizeOf27 gu rfl rfl (aow 3 [_,_,_,_,_])) rfl ?_)))))))))
  refine zCo zAa call12 rfl rfl rfl rfl (Ur.c12 c p (by omega) gu) (fun jD g9 => ?_)
  refine w_p (zCa rfl rfl rfl rfl) rfl (zAd (zAc (gZ _ _ (zAr rfl rfl (fun gn => ?_) (fun gn => ?_)))))
  ·
   try simp only [zS] at gn
   refine zAf (fun jE hD => (zAb (zA6 rfl rfl (w_p (zCs rfl rfl rfl rfl) rfl (w_p (zAt rfl rfl) rfl (zB5 (fun g5 => ?_) (fun g5 => ?_)))))))
   ·
    try simp only [zS] at g5
    refine zA4 (zAh rfl rfl rfl) call6 rfl rfl rfl rfl (Ut.c6 g9) ?_
    rintro _ jF ⟨rfl, hN⟩
    refine w_p (zA5 (v := .bool _) rfl rfl rfl rfl) rfl (w_p (zAt rfl rfl) rfl (zA4 (zAh rfl rfl rfl) call7 rfl rfl rfl rfl (Uc.c7 hN) ?_))
    rintro _ jG ⟨rfl, hP⟩
    refine w_p (zA5 (v := .bool _) rfl rfl rfl rfl) rfl (w_p (zAs rfl rfl) rfl (zAd (zAc (hD _ _ (zA8 (zAl (zBa (l := [.tmp 6]) (vs := [_]) rfl ⟨⟨rfl, (rfl : _ = Value.bool _)⟩, trivial⟩ ?_)))))))
    exact ⟨rfl, hP.tail.tail.tail.tail.drop.drop⟩
   exfalso
   try simp only [zS] at g5
   first | exact absurd g5 (htl.2.1 (by assumption)) | exact g5 (htl.2.1 (by assumption))
  try simp only [zS] at gn
  refine zAn (zAc (gY _ _ (zAf (fun jH hX => (zAf (fun jI hY => ?_))))))
  have hne : H ≠ never c := by assumption
  obtain ⟨hw2, ha1, ha2, ha3, ha4⟩ := htl.2.2 hne
  refine zAb (zA6 rfl rfl (w_p (zCa rfl rfl rfl rfl) rfl (w_p (zAt rfl rfl) rfl (zB5 (fun ga => ?_) (fun ga => ?_)))))
  ·
   exfalso
   try simp only [zS] at ga
   exact hw2 ga
  try simp only [zS] at ga
  refine w_y rfl rfl rfl (zAe (o := 0) (i := 0) underlying36 rfl sizeOf3 rfl rfl rfl) rfl ?_
  refine w_y rfl rfl rfl (zAg isAgg3 g9 rfl rfl (aow 0 [_])) rfl ?_
  refine w_y rfl rfl rfl (zAe (o := 0) (i := 0) underlying27 rfl sizeOf22 rfl rfl rfl) rfl ?_
  refine w_y rfl rfl rfl (zAg isAgg22 g9 rfl rfl (aow 3 [_])) rfl ?_
  refine w_y rfl rfl rfl (zBc underlying22 rfl rfl) rfl ?_
  refine zA4 (zAh rfl rfl rfl) call13 rfl rfl rfl rfl (c13 _ _ _ g9) ?_
  rintro _ jJ ⟨rfl, gc⟩
  refine w_y rfl rfl rfl (zDo rfl rfl) rfl ?_
  refine w_p (zBg (v := .bool _) rfl rfl rfl rfl) rfl (w_p (zAt rfl rfl) rfl (zB5 (fun gd => ?_) (fun gd => ?_)))
  ·
   exfalso
   try simp only [zS] at gd
   simp at gd; omega
  try simp only [zS] at gd
  refine w_y rfl rfl rfl (zAe (o := 1) (i := 1) underlying36 rfl sizeOf3 rfl rfl rfl) rfl ?_
  refine w_y rfl rfl rfl (zAg isAgg3 gc rfl rfl (aow 0 [_])) rfl ?_
  refine w_y rfl rfl rfl (zAe (o := 0) (i := 0) underlying36 rfl sizeOf3 rfl rfl rfl) rfl ?_
  refine w_y rfl rfl rfl (zAg isAgg3 gc rfl rfl (aow 0 [_])) rfl ?_
  refine w_y rfl rfl rfl (zAe (o := 0) (i := 0) underlying27 rfl sizeOf22 rfl rfl rfl) rfl ?_
  refine w_y rfl rfl rfl (zAg isAgg22 gc rfl rfl (aow 3 [_])) rfl ?_
  refine w_y rfl rfl rfl (zBc underlying22 rfl rfl) rfl ?_
  refine zA4 (zAh rfl rfl rfl) call13 rfl rfl rfl rfl (c13 _ _ _ gc) ?_
  rintro _ jK ⟨rfl, gv⟩
  refine w_y rfl rfl rfl (zDo rfl rfl) rfl ?_
  refine w_p (zBg (v := .bool _) rfl rfl rfl rfl) rfl (w_p (zAt rfl rfl) rfl (zB5 (fun ge => ?_) (fun ge => ?_)))
  ·
   exfalso
   try simp only [zS] at ge
   simp at ge; omega
  try simp only [zS] at ge
  refine w_y rfl rfl rfl (zAy rfl rfl) rfl ?_
  refine w_y rfl rfl rfl (zA2 (vs := [_,_]) isAgg36 sizeOf36 gv rfl rfl (aow 0 [_,_])) rfl ?_
  refine zA4 (zAh rfl rfl rfl) call14 rfl rfl rfl rfl (Uc.c14 _ _ _ gv) ?_
  rintro _ jL ⟨rfl, j0⟩
  refine w_y rfl rfl rfl (zDo rfl rfl) rfl ?_
  refine w_p (zBg (v := .bool _) rfl rfl rfl rfl) rfl (zAd (zAc (hY _ _ (zAr rfl rfl (fun gf => ?_) (fun gf => ?_)))))
  ·
   exfalso
   try simp only [zS] at gf
   simp at gf; omega
  try simp only [zS] at gf
  refine zAn (zAc (hX _ _ (zAf (fun jM j1 => (zAb (zBi rfl rfl (zAd (zAc (j1 _ _ (zAf (fun jN j3 => ?_)))))))))))
  have hqp := quo_party (g := 1 + x1 % 8) (by omega) ha1 ha2 ha3
  obtain ⟨lo, hlo⟩ : ∃ lo : Nat, min 3 ((turnsP c (n : Int)).1.1 / (1 + x1 % 8)) = ((lo : Nat) : Int) := ⟨(min 3 ((turnsP c (n : Int)).1.1 / (1 + x1 % 8))).toNat, by omega⟩
  obtain ⟨hi, hhi⟩ : ∃ hi : Nat, min 3 ((turnsP c (n : Int)).1.2 / (1 + x1 % 8)) = ((hi : Nat) : Int) := ⟨(min 3 ((turnsP c (n : Int)).1.2 / (1 + x1 % 8))).toNat, by omega⟩
  obtain ⟨q, hq⟩ : ∃ q : Nat, min 3 (H / (1 + x1 % 8)) = ((q : Nat) : Int) := ⟨(min 3 (H / (1 + x1 % 8))).toNat, by omega⟩
  refine zCq [14] [(0,0),(1,0),(2,1),(3,0),(4,0),(5,0),(6,0),(7,0),(8,1),(9,0),(10,0),(11,0),(12,0),(13,2),(14,3)] zB4 (zBk (by kernel_rfl)) j0 (fun jO go => ?_)
  refine d_w rfl (fun _ => zAy rfl rfl) rfl (d_w rfl (fun _ => zAe (o := 0) (i := 0) underlying36 rfl sizeOf3 rfl rfl rfl) rfl ?_)
  refine zAz rfl zAa rfl go (fun _ hq => (zAg isAgg3 hq rfl rfl (aow 0 [_]))) ?_
  refine d_w rfl (fun _ => zAy rfl rfl) rfl (d_w rfl (fun _ => y_quo rfl rfl rfl rfl (by omega) (by omega) (by omega)) rfl (d_w rfl (fun _ => zGj (z' := ((lo : Nat) : Int)) hlo (zG9 rfl rfl rfl rfl)) rfl (d_w rfl (fun _ => zAy rfl rfl) rfl ?_)))
  refine d_w rfl (fun _ => zAe (o := 1) (i := 1) underlying36 rfl sizeOf3 rfl rfl rfl) rfl ?_
  refine zAz rfl zAa rfl go (fun _ hq => (zAg isAgg3 hq rfl rfl (aow 0 [_]))) ?_
  refine d_w rfl (fun _ => zAy rfl rfl) rfl (d_w rfl (fun _ => y_quo rfl rfl rfl rfl (by omega) (by omega) (by omega)) rfl (d_w rfl (fun _ => zGj (z' := ((hi : Nat) : Int)) hhi (zG9 rfl rfl rfl rfl)) rfl (d_w rfl (fun _ => zB1 (ps := [(0, _),(1, _)]) (pv := [(0, .int _ _),(1, .int _ _)]) rfl rfl (fun w => Try_TA_fb0 _ _ w)) rfl ?_)))
  refine zBh rfl ?_
  refine zA1 (cs := [_,_]) zAa zeroValue36 rfl go (fun jP jQ gw => ?_)
  refine zAd (qn ⟨gw.tail, ?_⟩)
  refine zBr rfl ?_
  refine zBj 0 (.agg #[.int _ _, .int _ _]) [_,_] sizeOf36 gw (fun jR j4 => ?_)
  refine zAd (qn ?_)
  refine zBm ?_
  refine zAc (j3 _ _ (zAf (fun jS j5 => (zCq [] [(0,1),(2,0),(3,0),(4,0),(5,0),(6,0),(1,2),(7,2),(8,0),(9,2),(10,0),(11,0),(12,2),(13,0),(14,0)] zB4 (zBk (by kernel_rfl)) j4 (fun jT gx => ?_)))))
  refine zAz rfl zAa rfl gx (fun _ hq => (zA2 (vs := [_,_]) isAgg36 sizeOf36 hq rfl rfl (aow 0 [_,_]))) ?_
  refine d_w rfl (fun _ => zAy rfl rfl) rfl (d_w rfl (fun _ => zAy rfl rfl) rfl (d_w rfl (fun _ => zAy rfl rfl) rfl (d_w rfl (fun _ => y_quo rfl rfl rfl rfl (by omega) (by omega) (by omega)) rfl (d_w rfl (fun _ => zGj (z' := ((q : Nat) : Int)) hq (zG9 rfl rfl rfl rfl)) rfl ?_))))
  refine zBh rfl ?_
  refine zA4 zAa call16 rfl rfl rfl rfl (Uc.c16 (lo : Int) (hi : Int) gx) ?_
  rintro _ jU ⟨FB, pF, rfl, hfi, gg⟩
  replace gg := (show St _ _ (FB ++ (_ :: _ :: _ :: _ :: _ :: GB ++ (WB ++ (F)))) from gg)
  refine zAd (qn ⟨gg.drop, ?_⟩)
  refine zBh rfl ?_
  refine zCo zAa call15 rfl rfl rfl rfl (Uc.c15 lo hi q pF (Uc.FIn.mono hfi (fun _ h => h.front)) (by omega) (by omega) (by omega) gg) (fun jV gy => ?_)
  refine zAd (qn ⟨gy.drop, ?_⟩)
  refine d_w rfl (fun _ => zAt rfl rfl) rfl ?_
  refine zBh rfl ?_
  refine zA4 (zAh rfl rfl rfl) call6 rfl rfl rfl rfl (Ut.c6 gy) ?_
  rintro _ jW ⟨rfl, gz⟩
  refine zAd (qn ⟨gz.drop, ?_⟩)
  refine d_w rfl (fun _ => zA5 (v := .bool _) rfl rfl rfl rfl) rfl (d_w rfl (fun _ => zAt rfl rfl) rfl ?_)
  refine zBh rfl ?_
  refine zA4 (zAh rfl rfl rfl) call7 rfl rfl rfl rfl (Uc.c7 gz) ?_
  rintro _ jX ⟨rfl, gA⟩
  refine zAd (qn ⟨gA.drop, ?_⟩)
  refine d_w rfl (fun _ => zA5 (v := .bool _) rfl rfl rfl rfl) rfl (d_w rfl (fun _ => zAs rfl rfl) rfl ?_)
  refine zBm ?_
  refine zAc (j5 _ _ (zA8 (zBa (l := [.tmp 6]) (vs := [_]) rfl ⟨⟨rfl, (rfl : _ = Value.bool _)⟩, trivial⟩ ?_)))
  exact ⟨rfl, gA.drop.tail.tail.tail.tail.tail.drop.drop⟩

end Go.Proofs.Tt
/- Arguments of TopTurned, opened. No conditions. -/
set_option maxRecDepth 100000
namespace Go.Proofs.YtjhhifdfgeccoaaGreat
open Go.Proofs.Tryz
open Go.Rt Go.RowKit Go.ChangeShapes Go.WideShapes Go.ChangeAt
instance : Inhabited Tu.Lot := ⟨⟨0,0,0,0⟩⟩
instance : Inhabited Tu.Look := ⟨⟨0,0, false⟩⟩
theorem Tryz.own : ownKnob Tryz.prog.godebug = none := by kernel_rfl
theorem Tryz.laidOut : laidOutB Tryz.prog = true := by kernel_rfl
theorem cells3 : Tryz.prog.cellsOf 3 = 1 := by kernel_rfl
theorem cells4 : Tryz.prog.cellsOf 4 = 1 := by kernel_rfl
theorem cells5 : Tryz.prog.cellsOf 5 = 1 := by kernel_rfl
theorem cells22 : Tryz.prog.cellsOf 22 = 1 := by kernel_rfl
theorem cells23 : Tryz.prog.cellsOf 23 = 1 := by kernel_rfl
theorem cells24 : Tryz.prog.cellsOf 24 = 1 := by kernel_rfl
theorem cells25 : Tryz.prog.cellsOf 25 = 1 := by kernel_rfl
theorem cells27 : Tryz.prog.cellsOf 27 = 5 := by kernel_rfl
theorem cells36 : Tryz.prog.cellsOf 36 = 2 := by kernel_rfl
theorem cells38 : Tryz.prog.cellsOf 38 = 4 := by kernel_rfl
theorem cells62 : Tryz.prog.cellsOf 62 = 3 := by kernel_rfl
variable {H : Type} {enc : TypeId × Value → H} {W : World} {sp : Nat → Bool} {held : Bool}
theorem u8_wf {n : Int} (h : (Lit.int .u8 n).wf = true) : 0 ≤ n ∧ n ≤ 255 := by
  simp only [Lit.wf, Bool.and_eq_true, decide_eq_true_eq] at h
  exact h
theorem u16_wf {n : Int} (h : (Lit.int .u16 n).wf = true) : 0 ≤ n ∧ n ≤ 65535 := by
  simp only [Lit.wf, Bool.and_eq_true, decide_eq_true_eq] at h
  exact h
theorem open_int (fuel : Nat) (cs : List Value) (y : DataW H × List MemPlace) (h : DataW.trod enc Tryz.prog W 0 sp held fuel 3 cs = some y) : ∃ z : Int, cs = [.int .i64 z] ∧ True := by
  obtain ⟨z, e⟩ := zFe underlying3 h
  exact ⟨z, e, trivial⟩
theorem open_span (fuel : Nat) (cs : List Value) (y : DataW H × List MemPlace) (h : DataW.trod enc Tryz.prog W 0 sp held fuel 36 cs = some y) : ∃ s : Int × Int, cs = Tu.scells s ∧ True := by
  have hl := trod_len underlying36 h
  rw [cells36] at hl
  obtain ⟨_, _, h0⟩ := zDc underlying36 h 0 3 0 1 rfl rfl rfl cells3
  obtain ⟨_, _, h1⟩ := zDc underlying36 h 1 3 1 1 rfl rfl rfl cells3
  match cs, hl with
  | [c0, c1], _ =>
    obtain ⟨a, e0⟩ := zFe underlying3 h0
    obtain ⟨b, e1⟩ := zFe underlying3 h1
    simp at e0 e1
    exact ⟨(a, b), by rw [e0, e1]; rfl, trivial⟩
theorem open_tlot (fuel : Nat) (cs : List Value) (y : DataW H × List MemPlace) (h : DataW.trod enc Tryz.prog W 0 sp held fuel 38 cs = some y) : ∃ f : Tu.Lot, cs = f.cells ∧ True := by
  have hl := trod_len underlying38 h
  rw [cells38] at hl
  obtain ⟨_, _, h0⟩ := zDc underlying38 h 0 3 0 1 rfl rfl rfl cells3
  obtain ⟨_, _, h1⟩ := zDc underlying38 h 1 3 1 1 rfl rfl rfl cells3
  obtain ⟨_, _, h2⟩ := zDc underlying38 h 2 36 2 2 rfl rfl rfl cells36
  match cs, hl with
  | [c0, c1, c2, c3], _ =>
    obtain ⟨x0, e0⟩ := zFe underlying3 h0
    obtain ⟨x1, e1⟩ := zFe underlying3 h1
    obtain ⟨⟨x2, x3⟩, e2, _⟩ := open_span _ _ _ h2
    simp [Tu.scells] at e0 e1 e2
    exact ⟨⟨x0, x1, x2, x3⟩, by rw [e0, e1, e2.1, e2.2]; rfl, trivial⟩
theorem open_look (fuel : Nat) (cs : List Value) (y : DataW H × List MemPlace) (h : DataW.trod enc Tryz.prog W 0 sp held fuel 62 cs = some y) : ∃ f : Tu.Look, cs = f.cells ∧ True := by
  have hl := trod_len underlying62 h
  rw [cells62] at hl
  obtain ⟨_, _, h0⟩ := zDc underlying62 h 0 3 0 1 rfl rfl rfl cells3
  obtain ⟨_, _, h1⟩ := zDc underlying62 h 1 3 1 1 rfl rfl rfl cells3
  obtain ⟨_, _, h2⟩ := zDc underlying62 h 2 4 2 1 rfl rfl rfl cells4
  match cs, hl with
  | [c0, c1, c2], _ =>
    obtain ⟨x0, e0⟩ := zFe underlying3 h0
    obtain ⟨x1, e1⟩ := zFe underlying3 h1
    obtain ⟨x2, e2, _⟩ := DataW.trod_bool underlying4 h2
    simp at e0 e1 e2
    exact ⟨⟨x0, x1, x2⟩, by rw [e0, e1, e2]; rfl, trivial⟩
theorem open_cargo {v : Value} {d : DataW H} {ps : List MemPlace} {r : Reach} {b0 : Nat} (hval : Value.okWide Tryz.prog W r b0 27 v) (h : DataW.Trod enc Tryz.prog W 0 sp held 27 v d ps) :
    ∃ (c : Tu.Cargo) (p : Tu.AtT), v = .agg (c.cells p).toArray ∧ Ut.TIn W [] c p := by
  obtain ⟨xs, rfl, hsz⟩ : ∃ xs, v = .agg xs ∧ xs.size = 5 := by
    unfold Value.okWide at hval
    rw [underlying27] at hval
    obtain ⟨cs, h1, h2, _⟩ := hval
    exact ⟨cs, h1, by rw [h2, cells27]⟩
  obtain ⟨fuel, hf⟩ := h
  have hf2 : DataW.trod enc Tryz.prog W 0 sp held fuel 27 xs.toList = some (d, ps) := hf
  obtain ⟨_, _, h0⟩ := zDc underlying27 hf2 0 22 0 1 rfl rfl rfl cells22
  obtain ⟨_, _, h1⟩ := zDc underlying27 hf2 1 3 1 1 rfl rfl rfl cells3
  obtain ⟨_, _, h2⟩ := zDc underlying27 hf2 2 23 2 1 rfl rfl rfl cells23
  obtain ⟨_, _, h3⟩ := zDc underlying27 hf2 3 24 3 1 rfl rfl rfl cells24
  obtain ⟨_, _, h4⟩ := zDc underlying27 hf2 4 25 4 1 rfl rfl rfl cells25
  obtain ⟨xl, rfl⟩ : ∃ l : List Value, xs = l.toArray := ⟨xs.toList, by simp⟩
  have hl5 : xl.length = 5 := by simpa using hsz
  match xl, hl5 with
  | [c0, c1, c2, c3, c4], _ =>
    obtain ⟨a0, n0, l0, e0, s0, q0, m0, _⟩ := zHo (row := fun z : Int => [Value.int .i64 z]) (ok := fun _ => True) underlying22 cells3 (by omega) (fun _ => rfl) open_int h0
    obtain ⟨x1, e1⟩ := zFe underlying3 h1
    obtain ⟨a2, n2, l2, e2, s2, q2, m2, _⟩ := zHo (row := Tu.scells) (ok := fun _ => True) underlying23 cells36 (by omega) (fun _ => rfl) open_span h2
    obtain ⟨a3, n3, l3, e3, s3, q3, m3, _⟩ := zHo (row := Tu.Lot.cells) (ok := fun _ => True) underlying24 cells38 (by omega) (fun _ => rfl) open_tlot h3
    obtain ⟨a4, n4, l4, e4, s4, q4, m4, _⟩ := zHo (row := Tu.Look.cells) (ok := fun _ => True) underlying25 cells62 (by omega) (fun _ => rfl) open_look h4
    simp at e0 e1 e2 e3 e4
    exact ⟨⟨l0, x1, l2, l3, l4⟩, ⟨a0, n0, a2, n2, a3, n3, a4, n4⟩, by rw [e0, e1, e2, e3, e4]; rfl, ⟨s0, s2, s3, s4, m0, m2, m3, m4⟩⟩
theorem cel5 {fuel : Nat} {cs : List Value} {y : DataW H × List MemPlace} (h : DataW.trod enc Tryz.prog W 0 sp held fuel 5 cs = some y) : ∃ (x0 : Int), cs = [.int .u8 x0] ∧ (0 ≤ x0 ∧ x0 ≤ 255) := by
  obtain ⟨n, e, _, hw⟩ := DataW.trod_int underlying5 h
  exact ⟨n, e, u8_wf hw⟩
theorem cells28 : Tryz.prog.cellsOf 28 = 2 := by kernel_rfl
theorem cel28 {fuel : Nat} {cs : List Value} {y : DataW H × List MemPlace} (h : DataW.trod enc Tryz.prog W 0 sp held fuel 28 cs = some y) : ∃ (x0 : Int) (x1 : Int), cs = [.int .u8 x0, .int .u8 x1] ∧ (0 ≤ x0 ∧ x0 ≤ 255) ∧ (0 ≤ x1 ∧ x1 ≤ 255) := by
  obtain ⟨ys, m, _,_, hl, hll, he⟩ := DataW.trod_array underlying28 h
  rw [cells28] at hl
  rw [cells5] at he
  have h0 := he 0 (by omega)
  rw [List.getElem?_eq_getElem (by omega)] at h0
  have h1 := he 1 (by omega)
  rw [List.getElem?_eq_getElem (by omega)] at h1
  match cs, hl with
  | [c0, c1], _ =>
    obtain ⟨x0, e0, f0_0⟩ := cel5 h0
    obtain ⟨x1, e1, f1_0⟩ := cel5 h1
    simp at e0 e1
    exact ⟨x0, x1, by simp [e0, e1], f0_0, f1_0⟩
theorem opn28 {v : Value} {d : DataW H} {ps : List MemPlace} {r : Reach} {b0 : Nat} (hval : Value.okWide Tryz.prog W r b0 28 v) (h : DataW.Trod enc Tryz.prog W 0 sp held 28 v d ps) : ∃ (x0 : Int) (x1 : Int), v = .agg #[.int .u8 x0, .int .u8 x1] ∧ (0 ≤ x0 ∧ x0 ≤ 255) ∧ (0 ≤ x1 ∧ x1 ≤ 255) := by
  obtain ⟨xs, rfl, hsz⟩ : ∃ xs, v = .agg xs ∧ xs.size = 2 := by
    unfold Value.okWide at hval
    rw [underlying28] at hval
    obtain ⟨cs, h1, h2, _⟩ := hval
    exact ⟨cs, h1, by rw [h2, cells28]⟩
  obtain ⟨fuel, hf⟩ := h
  have hf2 : DataW.trod enc Tryz.prog W 0 sp held fuel 28 xs.toList = some (d, ps) := hf
  obtain ⟨xl, rfl⟩ : ∃ l : List Value, xs = l.toArray := ⟨xs.toList, by simp⟩
  obtain ⟨x0, x1, e, hr⟩ := cel28 hf2
  exact ⟨x0, x1, by rw [show xl = _ from e], hr⟩
theorem cel29 {fuel : Nat} {cs : List Value} {y : DataW H × List MemPlace} (h : DataW.trod enc Tryz.prog W 0 sp held fuel 29 cs = some y) : ∃ (x0 : Int), cs = [.int .u16 x0] ∧ (0 ≤ x0 ∧ x0 ≤ 65535) := by
  obtain ⟨n, e, _, hw⟩ := DataW.trod_int underlying29 h
  exact ⟨n, e, u16_wf hw⟩
theorem opn29 {v : Value} {d : DataW H} {ps : List MemPlace} {r : Reach} {b0 : Nat} (hval : Value.okWide Tryz.prog W r b0 29 v) (h : DataW.Trod enc Tryz.prog W 0 sp held 29 v d ps) : ∃ x0 : Int, v = .int .u16 x0 ∧ (0 ≤ x0 ∧ x0 ≤ 65535) := by
  obtain ⟨z, rfl⟩ := okWide_int underlying29 hval
  obtain ⟨fuel, hf⟩ := h
  obtain ⟨n, e, hr⟩ := cel29 hf
  have e2 : ([Value.int .u16 z] : List Value) = [.int .u16 n] := e
  cases e2
  exact ⟨z, rfl, hr⟩
end Go.Proofs.YtjhhifdfgeccoaaGreat
