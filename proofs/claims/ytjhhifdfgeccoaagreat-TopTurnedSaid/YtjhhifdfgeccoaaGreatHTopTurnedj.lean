/- Own texts of this claim, joined. No conditions. -/
import Derived.Test.YtjhhifdfgeccoaaGreatHTopTurneda
import Derived.Test.YtjhhifdfgeccoaaGreatHTopTurnedb
import Derived.Test.YtjhhifdfgeccoaaGreatHTopTurnedc
import Derived.Test.YtjhhifdfgeccoaaGreatHTopTurnedd
import Derived.Test.YtjhhifdfgeccoaaGreatHTopTurnede
import Derived.Test.YtjhhifdfgeccoaaGreatHTopTurnedf
import Derived.Test.YtjhhifdfgeccoaaGreatHTopTurnedg
import Derived.Test.YtjhhifdfgeccoaaGreatHTopTurnedh
import Derived.Test.YtjhhifdfgeccoaaGreatHTopTurnedi
set_option linter.unusedVariables false
set_option linter.unusedSimpArgs false
set_option maxRecDepth 20000
namespace Go.Proofs.Uc
open Go.Proofs.Tryz
open Go.Rt Go.Rt.Cm
open Go.Rt.Ha (felt spanL upto zBv listL bit Bunch zB8 zCi zBx zB2 zCg zCf zBu)
attribute [local irreducible] WL WC Con Yd At Ats Sl Agree DW
theorem zIq (x0 : Int) (x1 : Int) (w : World) : (Instr.build 36 [(0, .int .i64 x0),(1, .int .i64 x1)].toArray).run Tryz.prog w = .ok (.agg #[.int .i64 x0, .int .i64 x1]) w := by kernel_rfl
theorem c34 {w0 w : World} {F : List (Nat × Obj)} (f : File) (p : AtF) (hm : FIn w0 F f p) (hf : f.Ok) (hsm : truths f 0 ≠ []) (q0 : Nat) (hq0 : q0 < f.parties.length) (hs : St w0 w F) :
  Con Tryz.prog 34 [.agg (f.cells p).toArray, .int .i64 (q0 : Int)] w fun v w' => v = .tuple #[.agg #[.int .i64 (owes f (q0 : Int)).1, .int .i64 (owes f (q0 : Int)).2], .int .i64 0] ∧ St w0 w' F := by
  refine zEa (n := 76) func34 rfl rfl (zNl rfl) ?_
  have hlc := hf.lc
  have hll := hf.ll
  have hnp := hf.np
  refine zAf (fun K2 gp => (zAb (zCj (v := .agg #[.slice _ _ _, .slice _ _ _, .slice _ _ _, .slice _ _ _, .slice _ _ _]) (cs := [_,_,_,_,_]) zAa rfl rfl rfl hs (fun b3 w4 gq => ?_))))
  refine zCj (v := .int _ _) (cs := [_]) zAa rfl rfl rfl gq (fun b6 w7 gt => ?_)
  refine zA1 (cs := [_,_]) zAa zeroValue36 rfl gt (fun b9 hN g7 => ?_)
  refine zBi rfl rfl (zAd (zAc (gp _ _ (zAf (fun hP gu => (zAb (w_p (zA2 (vs := [_,_,_,_,_]) isAgg56 sizeOf56 g7 rfl rfl (aow 2 [_,_,_,_,_])) rfl (w_p (zAg isAgg3 g7 rfl rfl (aow 1 [_])) rfl ?_))))))))
  refine w_p (zAe (o := 0) (i := 0) underlying56 rfl sizeOf51 rfl rfl rfl) rfl (w_p (zAg isAgg51 g7 rfl rfl (aow 2 [_])) rfl (w_p (zBc underlying51 rfl rfl) rfl ?_))
  refine zA4 zAa call66 rfl rfl rfl rfl (c66y f p hm.cons.cons.cons hf (q0 : Int) (f.parties.length : Int) (by omega) (by omega) hsm g7) ?_
  rintro _ hX ⟨cb, mm, rfl, gv⟩
  have gw := (show St _ _ (_ :: _ :: _ :: _ :: _ :: F) from St.pk [[_], [_], [_], [_], [_]] [1,0,2,3,4] gv)
  refine w_p (zA3 rfl rfl) rfl (w_p (zAw rfl rfl rfl) rfl (w_p (zAk rfl rfl rfl) rfl (zA1 (cs := [_]) zAa zeroValue114 rfl gw (fun g0 hY gx => ?_))))
  refine zBj 0 (.pointer _) [_] sizeOf114 gx (fun j0 gy => ?_)
  refine zBw rfl rfl (zAd (zAc (gu _ _ (zAf (fun j1 gz => (zAf (fun j3 gA => (zAb (zA6 rfl rfl (w_p (zCs rfl rfl rfl rfl) rfl (zAd (zAc (gA _ _ (zBs rfl rfl ?_))))))))))))))
  refine zAn (zAc (gz _ _ (zAf (fun j4 gB => (zAb (zA1 (cs := [_]) zAa zeroValue4 rfl gy (fun gc j5 gC => ?_)))))))
  refine zBj 0 (.bool _) [_] sizeOf4 gC (fun j6 gi => ?_)
  refine zAd (zAc (gB _ _ (zAf (fun j7 gD => (zAf (fun j8 gE => (zAb (w_p (zAg isAgg114 gi rfl rfl (aow 1 [_])) rfl ?_))))))))
  refine zA4 zAa call67 rfl rfl rfl rfl (c67 _ gi) ?_
  rintro _ j9 ⟨bp, rfl, gF⟩
  refine zAd (zAc (gE _ _ (zAq ?_)))
  have gG := (show St _ _ (_ :: _ :: _ :: _ :: _ :: _ :: _ :: _ :: F) from St.pk [[_], [_], [_], [_], [_], [_], [_], [_]] [0,1,5,3,2,4,6,7] gF)
  refine zG0 ([_,_,_]) (fun i Bx => ∃ M, Bx = (gc, blk 4 [.bool (owesTo f (q0 : Int) i).2]) :: (b9, blk 36 [.int .i64 (owesTo f (q0 : Int) i).1.1, .int .i64 (owesTo f (q0 : Int) i).1.2]) :: M ∧ Memo f mm M) (fun _ _ => False) rfl rfl rfl call88 (zDv f p 0 cb mm (CK.cons (CK.cons (zEs (but := 0) (cb := cb) (mm := mm) (FIn.cons (FIn.cons hm)) hf (by omega)))) bp (aow 0 [_])) gG (zBp [_] [_,_,_] _) ⟨[_], rfl, zE1 f mm⟩ ?_ ?_ ?_
  ·
   intro lp i hi Bx Xr Xr2 ja hJ hs K gH
   obtain ⟨M3, rfl, g3⟩ := hJ
   have hi2 : i < (truths f 0).length := by simpa using hi
   rw [List.getElem_map]
   obtain ⟨x, hxe⟩ : ∃ x, x = (truths f 0)[i] := ⟨_, rfl⟩
   have hx := zFu hf (List.getElem_mem hi2)
   rw [← hxe] at hx ⊢
   have hx4 := hx.1
   have hp32 := zId hf x
   have hk : CK w0 ((bp, blk 114 [.pointer (some ⟨cb, 0, none⟩)]) :: (g0, blk 114 [.pointer (some ⟨cb, 0, none⟩)]) :: (cb, blk 151 [.slice p.ap f.parties.length p.cp, .slice p.au f.until_.length p.cu, .slice p.al f.lots.length p.cl, .slice p.aq f.paps.length p.cq, .slice p.ac f.clms.length p.cc, .int .i64 ((0 : Nat) : Int), .map (some mm)]) :: (b6, blk 3 [.int .i64 (q0 : Int)]) :: (b3, blk 56 (f.cells p)) :: F) f p 0 cb mm := (CK.cons (CK.cons (zEs (but := 0) (cb := cb) (mm := mm) (FIn.cons (FIn.cons hm)) hf (by omega))))
   have hx6 : Ats w0 ((bp, blk 114 [.pointer (some ⟨cb, 0, none⟩)]) :: (g0, blk 114 [.pointer (some ⟨cb, 0, none⟩)]) :: (cb, blk 151 [.slice p.ap f.parties.length p.cp, .slice p.au f.until_.length p.cu, .slice p.al f.lots.length p.cl, .slice p.aq f.paps.length p.cq, .slice p.ac f.clms.length p.cc, .int .i64 ((0 : Nat) : Int), .map (some mm)]) :: (b6, blk 3 [.int .i64 (q0 : Int)]) :: (b3, blk 56 (f.cells p)) :: F) g0 0 [.pointer (some ⟨cb, 0, none⟩)] := zB9 (i := 1) rfl rfl
   have hx3 : Ats w0 ((bp, blk 114 [.pointer (some ⟨cb, 0, none⟩)]) :: (g0, blk 114 [.pointer (some ⟨cb, 0, none⟩)]) :: (cb, blk 151 [.slice p.ap f.parties.length p.cp, .slice p.au f.until_.length p.cu, .slice p.al f.lots.length p.cl, .slice p.aq f.paps.length p.cq, .slice p.ac f.clms.length p.cc, .int .i64 ((0 : Nat) : Int), .map (some mm)]) :: (b6, blk 3 [.int .i64 (q0 : Int)]) :: (b3, blk 56 (f.cells p)) :: F) b6 0 [.int .i64 (q0 : Int)] := zB9 (i := 3) rfl rfl
   have hx2 : Ats w0 ((bp, blk 114 [.pointer (some ⟨cb, 0, none⟩)]) :: (g0, blk 114 [.pointer (some ⟨cb, 0, none⟩)]) :: (cb, blk 151 [.slice p.ap f.parties.length p.cp, .slice p.au f.until_.length p.cu, .slice p.al f.lots.length p.cl, .slice p.aq f.paps.length p.cq, .slice p.ac f.clms.length p.cc, .int .i64 ((0 : Nat) : Int), .map (some mm)]) :: (b6, blk 3 [.int .i64 (q0 : Int)]) :: (b3, blk 56 (f.cells p)) :: F) b3 0 (f.cells p) := zB9 (i := 4) rfl rfl
   replace hs := (show St _ _ (_ :: _ :: (M3 ++ (Xr ++ ((bp, blk 114 [.pointer (some ⟨cb, 0, none⟩)]) :: (g0, blk 114 [.pointer (some ⟨cb, 0, none⟩)]) :: (cb, blk 151 [.slice p.ap f.parties.length p.cp, .slice p.au f.until_.length p.cu, .slice p.al f.lots.length p.cl, .slice p.aq f.paps.length p.cq, .slice p.ac f.clms.length p.cc, .int .i64 ((0 : Nat) : Int), .map (some mm)]) :: (b6, blk 3 [.int .i64 (q0 : Int)]) :: (b3, blk 56 (f.cells p)) :: F)))) from hs)
   refine zAb (zA1 (cs := iv [0,0,0,0]) zAa zeroValue121 rfl hs (fun gj jb gI => ?_))
   refine zDg (i := 0) (l := _) zAa sizeOf121 (by first | omega | rfl | (simp only [hx4, zL] <;> omega)) rfl rfl rfl rfl rfl gI rfl (by first | omega | rfl | (simp only [hx4, zL] <;> omega)) (fun jc gJ => ?_)
   refine zAd (zAc (gH _ _ (_ :: _ :: _ :: M3) gJ (fun jd gd => ?_)))
   replace gd := (show St _ _ (_ :: _ :: _ :: M3 ++ (Xr2 ++ (_ :: _ :: _ :: _ :: _ :: F))) from gd)
   refine zAq ?_
   refine zAf (fun je gK => (zAb (zBi rfl rfl (zAd (zAc (gK _ _ (zAf (fun jf gL => (zAf (fun jg gM => (zG1 (C := fun w => ∃ M, Memo f mm M ∧ St w0 w ((gj, blk 121 (iv x)) :: (gc, blk 4 [.bool (owesTo f (q0 : Int) i).2]) :: (b9, blk 36 [.int .i64 (owesTo f (q0 : Int) i).1.1, .int .i64 (owesTo f (q0 : Int) i).1.2]) :: (M ++ (Xr2 ++ ((bp, blk 114 [.pointer (some ⟨cb, 0, none⟩)]) :: (g0, blk 114 [.pointer (some ⟨cb, 0, none⟩)]) :: (cb, blk 151 [.slice p.ap f.parties.length p.cp, .slice p.au f.until_.length p.cu, .slice p.al f.lots.length p.cl, .slice p.aq f.paps.length p.cq, .slice p.ac f.clms.length p.cc, .int .i64 ((0 : Nat) : Int), .map (some mm)]) :: (b6, blk 3 [.int .i64 (q0 : Int)]) :: (b3, blk 56 (f.cells p)) :: F))))) [] [(0,1),(1,1),(3,0),(4,1),(5,0),(8,0),(2,2),(6,2),(7,0)] zB4 (zBk (by kernel_rfl)) ⟨_, g3, gd⟩ (fun _ ⟨M, h1, h2⟩ => ⟨M, h1, h2.drew⟩) (fun jh ⟨M3, g3, g8⟩ => ?_))))))))))))
   refine zCe rfl zAa rfl ⟨_, g3, g8⟩ (fun _ ⟨M3, g3, hq⟩ => (zAg isAgg114 hq.tail.tail.tail.drop.drop rfl rfl hx6)) ?_
   refine zCe rfl zAa rfl ⟨_, g3, g8⟩ (fun _ ⟨M3, g3, hq⟩ => (zCt (i := 0) isAgg121 sizeOf121 (by first | omega | rfl | (simp only [hx4, zL] <;> omega)) hq rfl rfl rfl)) ?_
   refine d_w rfl (fun _ => zAe (o := 4) (i := 4) underlying56 rfl sizeOf54 rfl rfl rfl) rfl ?_
   refine zCe rfl zAa rfl ⟨_, g3, g8⟩ (fun _ ⟨M3, g3, hq⟩ => (zAg isAgg54 hq.tail.tail.tail.drop.drop rfl rfl (show Ats _ _ _ _ [_] from Ats.part hx2 4 1))) ?_
   refine d_w rfl (fun _ => zBc underlying54 rfl rfl) rfl (d_w rfl (fun _ => zBy (v := _) rfl rfl) rfl ?_)
   refine zBh rfl ?_
   refine zA4 zAa call71 rfl rfl rfl rfl (zI3 (X := [_,_,_]) (M := M3) (F := Xr2 ++ ((bp, blk 114 [.pointer (some ⟨cb, 0, none⟩)]) :: (g0, blk 114 [.pointer (some ⟨cb, 0, none⟩)]) :: (cb, blk 151 [.slice p.ap f.parties.length p.cp, .slice p.au f.until_.length p.cu, .slice p.al f.lots.length p.cl, .slice p.aq f.paps.length p.cq, .slice p.ac f.clms.length p.cc, .int .i64 ((0 : Nat) : Int), .map (some mm)]) :: (b6, blk 3 [.int .i64 (q0 : Int)]) :: (b3, blk 56 (f.cells p)) :: F)) f p 0 cb mm hk.app x hx g3 g8) ?_
   rintro _ ji ⟨rfl, M4, g4, g9⟩
   replace g9 := (show St _ _ (_ :: _ :: _ :: M4 ++ (Xr2 ++ (_ :: _ :: _ :: _ :: _ :: F))) from g9)
   refine zAd (qn ⟨⟨_, g4, g9⟩, ?_⟩)
   refine zBh rfl ?_
   refine zA4 zAa call69 rfl rfl rfl rfl (c69 (paid f x) f.clms.length (by omega) (by omega) g9) ?_
   rintro _ jj ⟨B, aB, cB, rfl, hslB, ga⟩
   replace ga := (show St _ _ (B ++ (_ :: _ :: _ :: M4 ++ (Xr2 ++ (_ :: _ :: _ :: _ :: _ :: F)))) from ga)
   refine zAd (qn ⟨⟨_, g4, ga.drop⟩, ?_⟩)
   refine d_w rfl (fun _ => zBc underlying22 rfl rfl) rfl ?_
   refine zBm ?_
   refine zAc (gM _ _ (zAq ?_))
   have gN := (show St _ _ (_ :: _ :: _ :: (B ++ ((M4 ++ ((Xr2 ++ (_ :: _ :: _ :: _ :: _ :: F))))))) from St.pk [B, [_], [_], [_], M4, Xr2, [_], [_], [_], [_], [_]] [1,2,3,0,4,5,6,7,8,9,10] ga)
   refine zB6 [9,11,36,37,38,39,40,41,42,43,44,45,46,47,48,49,50,51,52,53,54,55,56,57,58,59,60,61] [9,36] (fun kk vs w => ∃ k : Nat, vs = [.int .i64 (sumOf f (q0 : Int) ((listL (paid f x) f.clms.length).take k)), .int .i64 (k : Int)] ∧ k ≤ (listL (paid f x) f.clms.length).length ∧ kk = (listL (paid f x) f.clms.length).length - k ∧ St w0 w ((gj, blk 121 (iv x)) :: (gc, blk 4 [.bool (owesTo f (q0 : Int) i).2]) :: (b9, blk 36 [.int .i64 (owesTo f (q0 : Int) i).1.1, .int .i64 (owesTo f (q0 : Int) i).1.2]) :: (B ++ (M4 ++ (Xr2 ++ ((bp, blk 114 [.pointer (some ⟨cb, 0, none⟩)]) :: (g0, blk 114 [.pointer (some ⟨cb, 0, none⟩)]) :: (cb, blk 151 [.slice p.ap f.parties.length p.cp, .slice p.au f.until_.length p.cu, .slice p.al f.lots.length p.cl, .slice p.aq f.paps.length p.cq, .slice p.ac f.clms.length p.cc, .int .i64 ((0 : Nat) : Int), .map (some mm)]) :: (b6, blk 3 [.int .i64 (q0 : Int)]) :: (b3, blk 56 (f.cells p)) :: F)))))) ((listL (paid f x) f.clms.length).length) ?_ ?_
   ·
    exact ⟨0, rfl, by omega, by omega, gN⟩
   intro k vs μ jk hI jl gk
   clear hs
   obtain ⟨k, rfl, hka, rfl, hs⟩ := hI
   refine zAf (fun jm gO => (zAb (w_p (zCp rfl rfl rfl rfl) rfl (zAd (zAc (gO _ _ (zAf (fun jo gP => (zAr rfl rfl (fun ge => ?_) (fun ge => ?_))))))))))
   ·
    try simp only [zS] at ge
    refine zAn (zAc (gP _ _ (zAf (fun jp gm => (zAq ?_)))))
    refine zAf (fun jq gQ => ?_)
    have hk2 : k < (listL (paid f x) f.clms.length).length := by omega
    obtain ⟨bz, oz, hbz, hz0⟩ := zCx hslB hk2
    subst hbz
    have hz := fun R => Ats.top (F := R) hz0
    have hin := zGo (paid f x) f.clms.length
    have hzz := hin _ (List.getElem_mem hk2)
    obtain ⟨q, hq⟩ : ∃ q : Nat, (listL (paid f x) f.clms.length)[k] = (q : Int) := ⟨(listL (paid f x) f.clms.length)[k].toNat, by omega⟩
    have hq2 : q < f.clms.length := by omega
    have hqt : (listL (paid f x) f.clms.length)[k].toNat = q := by omega
    obtain ⟨bc, oc, hbc, hc⟩ := sl_clm hm.c hq2
    have hcc := hf.clm _ (List.getElem_mem hq2)
    obtain ⟨no, hno⟩ : ∃ no : Nat, f.clms[q].lot = (no : Int) := ⟨f.clms[q].lot.toNat, by omega⟩
    have hl2 : no < f.lots.length := by omega
    have hnt : f.clms[q].lot.toNat = no := by omega
    obtain ⟨by_, oy, hby, hy⟩ := sl_lot hm hl2
    have hwo := worth_in hf hq2
    rw [hnt] at hwo
    have hsb := sum_bd hf (q0 : Int) hin k (by omega)
    have hle := zDx (paid f x) f.clms.length
    refine zAb (w_p (zA7 underlying22 sizeOf3 rfl rfl rfl rfl (i := k) rfl hk2) rfl (w_p (zAg isAgg3 hs.tail.tail.tail rfl rfl (hz _)) rfl (zBw rfl rfl (zAd (zAc (gQ _ _ (zAf (fun jr gR => (zCq [] [(0,0),(1,1),(2,0),(3,0),(4,0),(5,1),(6,1),(7,0)] zB4 (zBk (by kernel_rfl)) hs (fun js g5 => ?_))))))))))
    refine d_w rfl (fun _ => zAe (o := 4) (i := 4) underlying56 rfl sizeOf54 rfl rfl rfl) rfl ?_
    refine zAz rfl zAa rfl g5 (fun _ hq => (zCl hbc (zAg isAgg54 hq.tail.tail.tail.drop.drop.drop rfl rfl (show Ats _ _ _ _ [_] from Ats.part hx2 4 1)))) ?_
    refine d_w rfl (fun _ => zAy rfl rfl) rfl (d_w rfl (fun _ => zA7 underlying54 sizeOf102 rfl rfl rfl rfl (i := q) hq hq2) rfl (d_w rfl (fun _ => zAe (o := 1) (i := 1) underlying102 rfl sizeOf3 rfl rfl rfl) rfl ?_))
    refine zAz rfl zAa rfl g5 (fun _ hq => (zAg isAgg3 hq.tail.tail.tail.drop.drop.drop.tail.tail.tail.tail.tail rfl rfl (show Ats _ _ _ _ [_] from Ats.part hc 1 1))) ?_
    refine zAz rfl zAa rfl g5 (fun _ hq => (zAg isAgg3 hq.tail.tail.tail.drop.drop.drop rfl rfl hx3)) ?_
    refine d_w rfl (fun _ => zCa rfl rfl rfl rfl) rfl ?_
    refine zBm ?_
    refine zAc (gR _ _ (zAr rfl rfl (fun gf => ?_) (fun gf => ?_)))
    ·
     try simp only [zS] at gf
     refine zCq [] [(0,0),(1,0),(2,1),(3,0),(4,1),(5,0),(6,0),(7,0),(8,1),(9,0),(10,0),(11,1),(12,0),(13,0)] zB4 (zBk (by kernel_rfl)) g5 (fun jt g6 => ?_)
     refine d_w rfl (fun _ => zAy rfl rfl) rfl (d_w rfl (fun _ => zAe (o := 2) (i := 2) underlying56 rfl sizeOf52 rfl rfl rfl) rfl ?_)
     refine zAz rfl zAa rfl g6 (fun _ hq => (zCl hby (zAg isAgg52 hq.tail.tail.tail.drop.drop.drop rfl rfl (show Ats _ _ _ _ [_] from Ats.part hx2 2 1)))) ?_
     refine d_w rfl (fun _ => zAe (o := 4) (i := 4) underlying56 rfl sizeOf54 rfl rfl rfl) rfl ?_
     refine zAz rfl zAa rfl g6 (fun _ hq => (zCl hbc (zAg isAgg54 hq.tail.tail.tail.drop.drop.drop rfl rfl (show Ats _ _ _ _ [_] from Ats.part hx2 4 1)))) ?_
     refine d_w rfl (fun _ => zAy rfl rfl) rfl (d_w rfl (fun _ => zA7 underlying54 sizeOf102 rfl rfl rfl rfl (i := q) hq hq2) rfl (d_w rfl (fun _ => zAe (o := 0) (i := 0) underlying102 rfl sizeOf3 rfl rfl rfl) rfl ?_))
     refine zAz rfl zAa rfl g6 (fun _ hq => (zAg isAgg3 hq.tail.tail.tail.drop.drop.drop.tail.tail.tail.tail.tail rfl rfl (show Ats _ _ _ _ [_] from Ats.part hc 0 1))) ?_
     refine d_w rfl (fun _ => zA7 underlying52 sizeOf100 rfl rfl rfl rfl (i := no) hno hl2) rfl (d_w rfl (fun _ => zAe (o := 3) (i := 2) underlying100 rfl sizeOf3 rfl rfl rfl) rfl ?_)
     refine zAz rfl zAa rfl g6 (fun _ hq => (zAg isAgg3 hq.tail.tail.tail.drop.drop.drop.tail.tail.tail.tail.tail rfl rfl (show Ats _ _ _ _ [_] from Ats.part hy 3 1))) ?_
     refine d_w rfl (fun _ => zBo rfl rfl rfl rfl (by omega) (by omega)) rfl (d_w rfl (fun _ => zA0 rfl rfl) rfl ?_)
     refine zBm ?_
     refine zAi (zAc (gm _ _ (zAb (w_p (zBo rfl rfl rfl rfl (by omega) (by omega)) rfl (zA6 rfl rfl (zAd (zAc (gk _ _ (nxI ((listL (paid f x) f.clms.length).length - (k + 1)) (by omega) ?_)))))))))
     first
       | exact ⟨k + 1, iv2 (by rw [zHd hk2, hqt, zFr hq2, if_pos (by assumption), hnt]) rfl, by omega, rfl, g6⟩
       | exact ⟨k + 1, iv2 (by rw [zHd hk2, hqt, zFr hq2, if_neg (by assumption)]) rfl, by omega, rfl, g6⟩
    try simp only [zS] at gf
    refine zAn (zAi (zAc (gm _ _ (zAb (w_p (zBo rfl rfl rfl rfl (by omega) (by omega)) rfl (zA6 rfl rfl (zAd (zAc (gk _ _ (nxI ((listL (paid f x) f.clms.length).length - (k + 1)) (by omega) ?_))))))))))
    first
      | exact ⟨k + 1, iv2 (by rw [zHd hk2, hqt, zFr hq2, if_pos (by assumption), hnt]) rfl, by omega, rfl, g5⟩
      | exact ⟨k + 1, iv2 (by rw [zHd hk2, hqt, zFr hq2, if_neg (by assumption)]) rfl, by omega, rfl, g5⟩
   try simp only [zS] at ge
   refine zBt (zAj (zAj (zAv (zAc (gL _ _ (zAf (fun ju gn => (zAf (fun jv gS => ?_)))))))))
   have hkl : k = (listL (paid f x) f.clms.length).length := by omega
   subst hkl
   have hsn : sumP f (q0 : Int) (truths f 0)[i] = sumOf f (q0 : Int) ((listL (paid f x) f.clms.length).take (listL (paid f x) f.clms.length).length) := by rw [← hxe, List.take_of_length_le (Nat.le_refl _)]; rfl
   refine zAb (w_p (zAg isAgg4 hs rfl rfl (aow 1 [_])) rfl (zAd ?_))
   refine zAc (gS _ _ (zAr rfl rfl (fun gg => ?_) (fun gg => ?_)))
   ·
    try simp only [zS] at gg
    refine zAb (zA6 rfl rfl (zA6 rfl rfl (w_p (zB1 (ps := [(0, _),(1, _)]) (pv := [(0, .int _ _),(1, .int _ _)]) rfl rfl (fun w => zIq _ _ w)) rfl (zBj 2 (.agg #[.int _ _, .int _ _]) [_,_] sizeOf36 hs (fun jw gT => ?_)))))
    refine zBj 1 (.bool _) [_] sizeOf4 gT (fun jx gh => ?_)
    refine zAd (zAc (gn _ _ (zAb (w_p (zAe (o := 0) (i := 0) underlying36 rfl sizeOf3 rfl rfl rfl) rfl (w_p (zAg isAgg3 gh rfl rfl (aow 2 [_])) rfl (zA6 rfl rfl (w_p (zG9 rfl rfl rfl rfl) rfl ?_)))))))
    refine w_p (zAe (o := 1) (i := 1) underlying36 rfl sizeOf3 rfl rfl rfl) rfl (w_p (zAg isAgg3 gh rfl rfl (aow 2 [_])) rfl (zA6 rfl rfl (w_p (y_max2 rfl rfl rfl rfl) rfl (w_p (zB1 (ps := [(0, _),(1, _)]) (pv := [(0, .int _ _),(1, .int _ _)]) rfl rfl (fun w => zIq _ _ w)) rfl ?_))))
    refine zBj 2 (.agg #[.int _ _, .int _ _]) [_,_] sizeOf36 gh (fun jy gU => ?_)
    refine zAd (zAi ?_)
    have gV := (show St _ _ (_ :: _ :: (M4 ++ ((Xr2 ++ (_ :: _ :: _ :: _ :: _ :: F))))) from St.pk [[_], [_], [_], B, M4, Xr2, [_], [_], [_], [_], [_]] [1,2,4,5,6,7,8,9,10] gU)
    refine zD2 (_ :: _ :: M4) gV ?_
    first
      | exact ⟨M4, by rw [owesTo_yes hi2 hsn (by assumption)]; first | rfl | simp [setMany], g4⟩
      | (have hb6 : (owesTo f (q0 : Int) i).2 = false := by assumption
         exact ⟨M4, by rw [owesTo_no hi2 hsn hb6, hb6]; first | rfl | simp [setMany], g4⟩)
   try simp only [zS] at gg
   refine zAn (zAc (gn _ _ (zAb (w_p (zAe (o := 0) (i := 0) underlying36 rfl sizeOf3 rfl rfl rfl) rfl (w_p (zAg isAgg3 hs rfl rfl (aow 2 [_])) rfl (zA6 rfl rfl (w_p (zG9 rfl rfl rfl rfl) rfl ?_)))))))
   refine w_p (zAe (o := 1) (i := 1) underlying36 rfl sizeOf3 rfl rfl rfl) rfl (w_p (zAg isAgg3 hs rfl rfl (aow 2 [_])) rfl (zA6 rfl rfl (w_p (y_max2 rfl rfl rfl rfl) rfl (w_p (zB1 (ps := [(0, _),(1, _)]) (pv := [(0, .int _ _),(1, .int _ _)]) rfl rfl (fun w => zIq _ _ w)) rfl ?_))))
   refine zBj 2 (.agg #[.int _ _, .int _ _]) [_,_] sizeOf36 hs (fun jz gW => ?_)
   refine zAd (zAi ?_)
   have gX := (show St _ _ (_ :: _ :: (M4 ++ ((Xr2 ++ (_ :: _ :: _ :: _ :: _ :: F))))) from St.pk [[_], [_], [_], B, M4, Xr2, [_], [_], [_], [_], [_]] [1,2,4,5,6,7,8,9,10] gW)
   refine zD2 (_ :: _ :: M4) gX ?_
   first
     | exact ⟨M4, by rw [owesTo_yes hi2 hsn (by assumption)]; first | rfl | simp [setMany], g4⟩
     | (have hb6 : (owesTo f (q0 : Int) i).2 = false := by assumption
        exact ⟨M4, by rw [owesTo_no hi2 hsn hb6, hb6]; first | rfl | simp [setMany], g4⟩)
  ·
   intro bd Bx jA hJ hs
   obtain ⟨M3, rfl, g3⟩ := hJ
   rw [List.length_map] at hs
   replace hs := (show St _ _ (_ :: _ :: _ :: (M3 ++ ((bp, blk 114 [.pointer (some ⟨cb, 0, none⟩)]) :: (g0, blk 114 [.pointer (some ⟨cb, 0, none⟩)]) :: (cb, blk 151 [.slice p.ap f.parties.length p.cp, .slice p.au f.until_.length p.cu, .slice p.al f.lots.length p.cl, .slice p.aq f.paps.length p.cq, .slice p.ac f.clms.length p.cc, .int .i64 ((0 : Nat) : Int), .map (some mm)]) :: (b6, blk 3 [.int .i64 (q0 : Int)]) :: (b3, blk 56 (f.cells p)) :: F))) from hs)
   refine zAi (zAc (gD _ _ (zAf (fun jB gY => (zAb (w_p (zA2 (vs := [_,_]) isAgg36 sizeOf36 hs rfl rfl (aow 2 [_,_])) rfl ?_))))))
   refine zBj 2 (.agg #[.int _ _, .int _ _]) [_,_] sizeOf36 hs (fun jC gZ => ?_)
   refine zBi rfl rfl (zAd (zAc (gY _ _ (zA8 (zGa (i := 0) (l := [.cell 4 36, .tmp 5]) (vs := [_,_]) gZ rfl rfl (fun jD go => ⟨⟨⟨rfl, _, rfl, zCv (vs := [_,_]) isAgg36 sizeOf36 go (aow 2 [_,_])⟩, ⟨rfl, (rfl : _ = Value.int _ _)⟩, trivial⟩, ?_⟩))))))
   have hD := (show St _ _ (F) from go.tail.tail.tail.drop.tail.tail.tail.tail.tail)
   exact ⟨by rw [owes_all]; rfl, hD⟩
  intro _ _ _ _ hJ
  exact hJ.elim

end Go.Proofs.Uc
set_option maxRecDepth 20000
namespace Go.Proofs.Uc
open Go.Proofs.Tryz
open Go.Rt Go.Rt.Cm
open Go.Rt.Ha (felt spanL upto zBv listL bit Bunch zB8 zCi zBx zB2 zCg zCf zBu)
attribute [local irreducible] WL WC Con Yd At Ats Sl Agree DW

theorem c92 {w0 w : World} {F : List (Nat × Obj)} (f : File) (p : AtF) (but cb mm : Nat) (hk : CK w0 F f p but cb mm) (b3 b5 : Nat) (h1 : Ats w0 F b3 0 [.pointer (some ⟨cb, 0, none⟩)]) (lot : Int) (h2 : Ats w0 F b5 0 [.int .i64 lot]) (z : Int) (hz : 0 ≤ z ∧ z < f.clms.length) (hs : St w0 w F) :
  Con Tryz.prog 92 [.int .i64 z, .pointer (some ⟨b3,0, none⟩), .pointer (some ⟨b5,0, none⟩)] w fun v w' => v = .bool (decide ((clmAt f z.toNat).lot = lot)) ∧ St w0 w' F := by
  refine zAo (n := 16) func92 rfl rfl (zNl rfl) ?_
  have hb := hk.l
  obtain ⟨q, rfl⟩ : ∃ q : Nat, z = (q : Int) := ⟨z.toNat, by omega⟩
  have hq2 : q < f.clms.length := by omega
  obtain ⟨bc, oc, hbc, hc⟩ := sl_clm hk.i.c hq2
  have hca := zFr hq2
  refine zAf (fun K2 g3 => (zAb (zBi rfl rfl (zAd (zAc (g3 _ _ (zAf (fun K4 g4 => (zCq [] [(0,1),(1,0),(2,0),(3,0),(4,1),(5,0),(6,0),(7,0),(8,1),(9,1),(10,0),(11,0)] zB4 (zBk (by kernel_rfl)) hs (fun w5 g0 => ?_))))))))))
  refine zAz rfl zAa rfl g0 (fun _ hq => (zAg isAgg114 hq rfl rfl h1)) ?_
  refine d_w rfl (fun _ => zB0 rfl rfl) rfl (d_w rfl (fun _ => zAe (o := 0) (i := 0) underlying151 rfl sizeOf56 rfl rfl rfl) rfl (d_w rfl (fun _ => zAe (o := 4) (i := 4) underlying56 rfl sizeOf54 rfl rfl rfl) rfl ?_))
  refine zAz rfl zAa rfl g0 (fun _ hq => (zCl hbc (zAg isAgg54 hq rfl rfl (show Ats _ _ _ _ [_] from Ats.part hb 4 1)))) ?_
  refine d_w rfl (fun _ => zAy rfl rfl) rfl (d_w rfl (fun _ => zA7 underlying54 sizeOf102 rfl rfl rfl rfl (i := q) rfl hq2) rfl (d_w rfl (fun _ => zAe (o := 0) (i := 0) underlying102 rfl sizeOf3 rfl rfl rfl) rfl ?_))
  refine zAz rfl zAa rfl g0 (fun _ hq => (zAg isAgg3 hq rfl rfl (show Ats _ _ _ _ [_] from Ats.part hc 0 1))) ?_
  refine zAz rfl zAa rfl g0 (fun _ hq => (zAg isAgg3 hq rfl rfl h2)) ?_
  refine d_w rfl (fun _ => zCa rfl rfl rfl rfl) rfl (d_w rfl (fun _ => zAs rfl rfl) rfl ?_)
  refine zBm ?_
  refine zAc (g4 _ _ (zA8 (zBa (l := [.tmp 4]) (vs := [_]) rfl ⟨⟨rfl, (rfl : _ = Value.bool _)⟩, trivial⟩ ?_)))
  exact ⟨congrArg Value.bool (by rw [show ((q : Int)).toNat = q from rfl, hca]), g0⟩

theorem c72 {w0 w : World} {X M F : List (Nat × Obj)} (f : File) (p : AtF) (but cb mm : Nat) (hk : CK w0 F f p but cb mm) (x : List Int) (hx : In4 f x) (lot : Nat) (hM : Memo f mm M) (hs : St w0 w (X ++ (M ++ F))) :
  Con Tryz.prog 72 [.pointer (some ⟨cb, 0, none⟩), ia x, .int .i64 (lot : Int)] w fun v w' => v = .bool (paysLot f x lot) ∧ ∃ M', Memo f mm M' ∧ St w0 w' (X ++ (M' ++ F)) := by
  refine zAo (n := 19) func72 rfl rfl (zNl rfl) ?_
  have hb := hk.l
  have hf := hk.ok
  have hlc := hf.lc
  have hp32 := zId hf x
  refine zAf (fun K2 g7 => (zAb (zCj (v := .pointer _) (cs := [_]) zAa rfl rfl rfl hs (fun b3 w4 g8 => ?_))))
  refine zEi (l := _) zAa rfl rfl rfl g8 (fun b6 w7 g9 => ?_)
  refine zCj (v := .int _ _) (cs := [_]) zAa rfl rfl rfl g9 (fun b9 gd ga => ?_)
  refine zBi rfl rfl (zAd (zAc (g7 _ _ (zAf (fun ge gc => (zG1 (C := fun w => ∃ M, Memo f mm M ∧ St w0 w ((b9, blk 3 [.int .i64 (lot : Int)]) :: (b6, blk 121 (iv x)) :: (b3, blk 114 [.pointer (some ⟨cb, 0, none⟩)]) :: (X ++ (M ++ F)))) [] [(0,1),(1,1),(3,1),(4,0),(5,0),(6,0),(7,1),(8,0),(10,0),(2,2),(9,2),(11,2),(12,0)] zB4 (zBk (by kernel_rfl)) ⟨_, hM, ga⟩ (fun _ ⟨M, h1, h2⟩ => ⟨M, h1, h2.drew⟩) (fun gf ⟨M, hM, g0⟩ => ?_)))))))
  refine zCe rfl zAa rfl ⟨_, hM, g0⟩ (fun _ ⟨M, hM, hq⟩ => (zAg isAgg114 hq rfl rfl (aow 2 [_]))) ?_
  refine zCe rfl zAa rfl ⟨_, hM, g0⟩ (fun _ ⟨M, hM, hq⟩ => (zCt (i := 1) isAgg121 sizeOf121 (by first | omega | rfl | (simp only [hx.1, zL] <;> omega)) hq rfl rfl rfl)) ?_
  refine zCe rfl zAa rfl ⟨_, hM, g0⟩ (fun _ ⟨M, hM, hq⟩ => (zAg isAgg114 hq rfl rfl (aow 2 [_]))) ?_
  refine d_w rfl (fun _ => zB0 rfl rfl) rfl (d_w rfl (fun _ => zAe (o := 0) (i := 0) underlying151 rfl sizeOf56 rfl rfl rfl) rfl (d_w rfl (fun _ => zAe (o := 4) (i := 4) underlying56 rfl sizeOf54 rfl rfl rfl) rfl ?_))
  refine zCe rfl zAa rfl ⟨_, hM, g0⟩ (fun _ ⟨M, hM, hq⟩ => (zAg isAgg54 hq.tail.tail.tail.drop.drop rfl rfl (show Ats _ _ _ _ [_] from Ats.part hb 4 1))) ?_
  refine d_w rfl (fun _ => zBc underlying54 rfl rfl) rfl (d_w rfl (fun _ => zCc (fv := []) (cv := [_,_]) rfl rfl rfl rfl) rfl ?_)
  refine zBh rfl ?_
  refine zA4 zAa call71 rfl rfl rfl rfl (zI3 (X := _ :: _ :: _ :: X) (M := M) (F := F) f p but cb mm hk x hx hM g0) ?_
  rintro _ gg ⟨rfl, M1, g3, g4⟩
  replace g4 := (show St _ _ (_ :: _ :: _ :: X ++ (M1 ++ (F))) from g4)
  refine zAd (qn ⟨⟨_, g3, g4⟩, ?_⟩)
  refine zBh rfl ?_
  refine zA4 zAa call69 rfl rfl rfl rfl (c69 (paid f x) f.clms.length (by omega) (by omega) g4) ?_
  rintro _ gh ⟨B, aB, cB, rfl, hslB, g5⟩
  replace g5 := (show St _ _ (B ++ (_ :: _ :: _ :: X ++ (M1 ++ (F)))) from g5)
  refine zAd (qn ⟨⟨_, g3, g5.drop⟩, ?_⟩)
  refine zBh rfl ?_
  refine zCo zAa call91 rfl rfl rfl rfl (c91 _ (listL (paid f x) f.clms.length) _ (by have := zDx (paid f x) f.clms.length; omega) (Sl.top hslB) call92 #[] #[.pointer (some ⟨b3,0, none⟩), .pointer (some ⟨b9,0, none⟩)] (fun z => decide ((clmAt f z.toNat).lot = (lot : Int))) (fun z hz w hs => c92 f p but cb mm hk.app.app.cons.cons.cons.app _ _ (Ats.app (aow 2 [_])) (lot : Int) (Ats.app (aow 0 [_])) z (zGo _ _ _ hz) hs) g5) (fun gi g6 => ?_)
  refine zAd (qn ⟨⟨_, g3, g6.drop⟩, ?_⟩)
  refine d_w rfl (fun _ => zAs rfl rfl) rfl ?_
  refine zBm ?_
  refine zAc (gc _ _ (zA8 (zBa (l := [.tmp 6]) (vs := [_]) rfl ⟨⟨rfl, (rfl : _ = Value.bool _)⟩, trivial⟩ ?_)))
  exact ⟨rfl, M1, g3, g6.drop.tail.tail.tail⟩

end Go.Proofs.Uc
/- Plain words of the claim layer: what a further claim helps in, step by step. No conditions. -/
namespace Go.Rt.Cm
open Go.Rt.Ha (felt spanL upto bit listL fewest Bunch zD4 zC4 at_ zBv zDu upto_nodup zC2 bit01)
def oftSt (f : File) (lot : Nat) (day : Int) (o p : List Int) : List Int := if paysLot f p lot = false ∧ day ≤ f.until_.getD (withP f p lot).toNat 0 then o.set (withP f p lot).toNat (o.getD (withP f p lot).toNat 0 + 1) else o
def oftTo (f : File) (lot : Nat) (day : Int) (i : Nat) : List Int := often f lot day ((truths f 0).take i)
theorem oft_zero (f : File) (lot : Nat) (day : Int) : oftTo f lot day 0 = [0,0,0,0] := rfl
theorem zHp {f : File} {lot : Nat} {day : Int} {i : Nat} (h : i < (truths f 0).length) : oftTo f lot day (i + 1) = oftSt f lot day (oftTo f lot day i) (truths f 0)[i] := fold_snoc _ _ h
theorem oft_no1 {f : File} {lot : Nat} {day : Int} {i : Nat} (h : i < (truths f 0).length) (h2 : paysLot f (truths f 0)[i] lot = true) : oftTo f lot day (i + 1) = oftTo f lot day i := by rw [zHp h, oftSt, if_neg (by simp [h2])]
theorem oft_no2 {f : File} {lot : Nat} {day : Int} {i q : Nat} (h : i < (truths f 0).length) (hq : withP f (truths f 0)[i] lot = (q : Int)) (hu : q < f.until_.length) (h2 : ¬ day ≤ f.until_[q]) : oftTo f lot day (i + 1) = oftTo f lot day i := by
  rw [zHp h, oftSt, hq, show ((q : Int)).toNat = q from rfl, show f.until_.getD q 0 = f.until_[q] by simp [List.getD, hu], if_neg (fun x => h2 x.2)]
theorem oft_yes {f : File} {lot : Nat} {day : Int} {i q : Nat} (h : i < (truths f 0).length) (hq : withP f (truths f 0)[i] lot = (q : Int)) (hu : q < f.until_.length) (h1 : paysLot f (truths f 0)[i] lot = false) (h2 : day ≤ f.until_[q]) : oftTo f lot day (i + 1) = (oftTo f lot day i).set q ((oftTo f lot day i).getD q 0 + 1) := by
  rw [zHp h, oftSt, hq, show ((q : Int)).toNat = q from rfl, show f.until_.getD q 0 = f.until_[q] by simp [List.getD, hu], if_pos ⟨h1, h2⟩]
theorem oft_len (f : File) (lot : Nat) (day : Int) : ∀ i, i ≤ (truths f 0).length → (oftTo f lot day i).length = 4
  | 0, _ => rfl
  | i + 1, h => by
    have ih := oft_len f lot day i (by omega)
    rw [zHp (by omega), oftSt]
    split
    · rw [List.length_set, ih]
    · exact ih
theorem oft_bd (f : File) (lot : Nat) (day : Int) : ∀ i, i ≤ (truths f 0).length → ∀ j, 0 ≤ (oftTo f lot day i).getD j 0 ∧ (oftTo f lot day i).getD j 0 ≤ i
  | 0, _, j => by rw [oft_zero]; match j with | 0 => decide | 1 => decide | 2 => decide | 3 => decide | _ + 4 => (show (0 : Int) ≤ 0 ∧ (0 : Int) ≤ ((0 : Nat) : Int); decide)
  | i + 1, h, j => by
    have ih := oft_bd f lot day i (by omega)
    rw [zHp (by omega), oftSt]
    split
    · rw [List.getD, List.getElem?_set]
      have h1 := ih j
      have h2 := ih (withP f (truths f 0)[i] lot).toNat
      split
      · split
        · simp only [Option.getD_some]; omega
        · simp only [Option.getD_none]; omega
      · have : (oftTo f lot day i)[j]?.getD 0 = (oftTo f lot day i).getD j 0 := rfl
        rw [this]; omega
    · have := ih j; omega
theorem zH3 {f : File} (hf : f.Ok) (but : Nat) : (truths f but).length ≤ 256 := by
  have h1 : (felt (bunC f)).length ≤ 4 ^ (bunC f).length := Tu.felt_len4 fun b hb => by
    obtain ⟨k, hk, he⟩ := List.getElem_of_mem hb
    rw [zGp] at hk
    rw [← he, bunC_get hk]
    have h2 := (zGc hf hk).turned
    have h3 := (zGc hf hk).len
    show (lotAt f k).hi + 1 - (lotAt f k).lo ≤ 4
    omega
  rw [zGp] at h1
  have h2 : 4 ^ f.lots.length ≤ 4 ^ 4 := Nat.pow_le_pow_right (by omega) hf.ll
  have h3 := List.length_filter_le (soC f but) ((felt (bunC f)).map pad4)
  rw [List.length_map] at h3
  unfold truths; omega
theorem zJc {o : List Int} {k : Nat} (h : (bestTo o k).2 < o.getD k 0) : bestTo o (k + 1) = ((k : Int), o.getD k 0) := by rw [bestTo, if_pos h]
theorem best_no {o : List Int} {k : Nat} (h : ¬ (bestTo o k).2 < o.getD k 0) : bestTo o (k + 1) = bestTo o k := by rw [bestTo, if_neg h]
theorem next_z {f : File} {lot : Nat} {day : Int} (h : (bestTo (oftTo f lot day (truths f 0).length) 4).2 = 0) : next f lot day = (0,0,9) := by
  unfold oftTo at h; rw [List.take_of_length_le (Nat.le_refl _)] at h; unfold next; rw [if_pos h]
theorem next_y {f : File} {lot : Nat} {day : Int} (h : ¬ (bestTo (oftTo f lot day (truths f 0).length) 4).2 = 0) : next f lot day = ((bestTo (oftTo f lot day (truths f 0).length) 4).1, (bestTo (oftTo f lot day (truths f 0).length) 4).2,0) := by
  unfold oftTo at h ⊢; rw [List.take_of_length_le (Nat.le_refl _)] at h ⊢; unfold next; rw [if_neg h]
end Go.Rt.Cm
/- The walking engine, part 26: an operation of a drawn region that is passed over, whatever stays. No conditions. -/
namespace Go.Rt
open Go.RowKit
variable {r : Option Nat} {P : Program} {ops : Array Oper} {K : Act → World → Prop} {n : Nat} {ρ : Nat → Value} {ds : List Deferred} {w : World}
theorem d_skipC {C : World → Prop} {i d j s : Nat} {b : Bool} {op : Op} {t : TypeId} {p : String} {e : Array Edge} {rest : List (Nat × Nat)} (ho : ops[i]? = some ⟨some d, op, t, p, e, some (j, b)⟩) (hj : (ops[j]?).bind (·.dst) = some s) (hs : Nat.blt s n = true) (hv : ρ s = .bool (!b)) (hC : C w)
    (h : DW r P ops K C rest (A n (upd ρ d undef) ds) w) : DW r P ops K C ((i, 1) :: rest) (A n ρ ds) w := by
  refine ⟨hC, _, undef, ho, .inr ⟨?_, rfl⟩, by rw [zIs]; exact h⟩
  simp only [Region.wanted, zF3 hj hs hv]; cases b <;> rfl
end Go.Rt
set_option maxRecDepth 20000
namespace Go.Proofs.Uc
open Go.Proofs.Tryz
open Go.Rt Go.Rt.Cm
open Go.Rt.Ha (felt spanL upto zBv listL bit Bunch zB8 zCi zBx zB2 zCg zCf zBu)
attribute [local irreducible] WL WC Con Yd At Ats Sl Agree DW
theorem Try_LM_fb3 (x0 : Int) (w : World) : (Instr.buildSlice 22 1 [(0, .int .i64 x0)].toArray).run Tryz.prog w = .ok (.slice (some ⟨w.heap.size, 0, none⟩) 1 1) (w.alloc (Go.Rt.blk 3 [.int .i64 x0])) := by kernel_rfl
theorem iv3 {a b c d e g : Int} (h : a = b) (h2 : c = d) (h3 : e = g) : [Value.int .i64 a, Value.int .i64 c, Value.int .i64 e] = [Value.int .i64 b, Value.int .i64 d, Value.int .i64 g] := by rw [h, h2, h3]
theorem tup3 {x : Int × Int × Int} {a b c : Int} (h : x = (a, b, c)) : Value.tuple #[.int .i64 a, .int .i64 b, .int .i64 c] = .tuple #[.int .i64 x.1, .int .i64 x.2.1, .int .i64 x.2.2] := by subst h; rfl
theorem c36 {w0 w : World} {F : List (Nat × Obj)} (f : File) (p : AtF) (hm : FIn w0 F f p) (hf : f.Ok) (hsm : truths f 0 ≠ []) (lot : Nat) (hl : lot < f.lots.length) (day : Int) (hday : 0 ≤ day ∧ day ≤ 60) (hs : St w0 w F) :
  Con Tryz.prog 36 [.agg (f.cells p).toArray, .int .i64 (lot : Int), .int .i64 day] w fun v w' => v = .tuple #[.int .i64 (next f lot day).1, .int .i64 (next f lot day).2.1, .int .i64 (next f lot day).2.2] ∧ St w0 w' F := by
  refine zEa (n := 73) func36 rfl rfl (zNl rfl) ?_
  have hlc := hf.lc
  have hll := hf.ll
  have hnp := hf.np
  have hlu := hf.lu
  have htl := zH3 hf 0
  refine zAf (fun K2 gp => (zAb (zCj (v := .agg #[.slice _ _ _, .slice _ _ _, .slice _ _ _, .slice _ _ _, .slice _ _ _]) (cs := [_,_,_,_,_]) zAa rfl rfl rfl hs (fun b3 w4 gq => ?_))))
  refine zCj (v := .int _ _) (cs := [_]) zAa rfl rfl rfl gq (fun b6 w7 gt => ?_)
  refine zCj (v := .int _ _) (cs := [_]) zAa rfl rfl rfl gt (fun b9 hP gg => ?_)
  refine zBi rfl rfl (zBi rfl rfl (zBi rfl rfl (zAd (zAc (gp _ _ (zAf (fun hX gu => (zAb (zBi rfl rfl (zAd (zAc (gu _ _ (zAf (fun hY gv => (zAf (fun j0 gw => (zAb (w_p (zAg isAgg3 gg rfl rfl (aow 0 [_])) rfl ?_))))))))))))))))))
  refine zAu (ps := [(0, _)]) (pv := [(0, .int _ _)]) (cs := [_]) zAa rfl rfl (fun w => Try_LM_fb3 _ w) gg (fun j1 j3 gx => ?_)
  refine zCo zAa call73 rfl rfl rfl rfl (c73 _ _ _ [_] _ (by simp) (zBb (i := 0) (rows := [[_]]) rfl (by simp) rfl) gx) (fun j4 g8 => ?_)
  refine zAd (zAc (gw _ _ (zAr rfl rfl (fun g7 => ?_) (fun g7 => ?_))))
  ·
   exfalso
   try simp only [zS] at g7
   first
     | (simp [out] at g7; omega)
     | (simp [out] at g7)
  try simp only [zS] at g7
  refine zAn (zAc (gv _ _ (zAf (fun j5 gy => (zAb (w_p (zA2 (vs := [_,_,_,_,_]) isAgg56 sizeOf56 g8 rfl rfl (aow 3 [_,_,_,_,_])) rfl (w_p (zAg isAgg3 g8 rfl rfl (aow 2 [_])) rfl ?_)))))))
  refine w_p (zAe (o := 2) (i := 2) underlying56 rfl sizeOf52 rfl rfl rfl) rfl (w_p (zAg isAgg52 g8 rfl rfl (aow 3 [_])) rfl (w_p (zBc underlying52 rfl rfl) rfl (zA6 rfl rfl ?_)))
  refine zA4 zAa call66 rfl rfl rfl rfl (c66y f p hm.cons.cons.cons.cons hf (lot : Int) (f.lots.length : Int) (by omega) (by omega) hsm g8) ?_
  rintro _ j6 ⟨cb, mm, rfl, gz⟩
  have gA := (show St _ _ (_ :: _ :: _ :: _ :: _ :: _ :: F) from St.pk [[_], [_], [_], [_], [_], [_]] [1,0,2,3,4,5] gz)
  refine w_p (zA3 rfl rfl) rfl (w_p (zAw rfl rfl rfl) rfl (w_p (zAk rfl rfl rfl) rfl (zA1 (cs := [_]) zAa zeroValue114 rfl gA (fun g5 j7 gB => ?_))))
  refine zBj 0 (.pointer _) [_] sizeOf114 gB (fun j8 gC => ?_)
  refine zBw rfl rfl (zAd (zAc (gy _ _ (zAf (fun j9 gD => (zAf (fun ja gE => (zAb (zA6 rfl rfl (w_p (zCs rfl rfl rfl rfl) rfl (zAd (zAc (gE _ _ (zBs rfl rfl ?_))))))))))))))
  refine zAn (zAc (gD _ _ (zAf (fun jb gF => (zAb (zA1 (cs := iv [0,0,0,0]) zAa zeroValue120 rfl gC (fun gh jc gi => ?_)))))))
  refine zAd (zAc (gF _ _ (zAf (fun jd gG => (zAf (fun je gH => (zAb (w_p (zAg isAgg114 gi rfl rfl (aow 1 [_])) rfl ?_))))))))
  refine zA4 zAa call67 rfl rfl rfl rfl (c67 _ gi) ?_
  rintro _ jf ⟨bp, rfl, gI⟩
  refine zAd (zAc (gH _ _ (zAq ?_)))
  have gJ := (show St _ _ (_ :: _ :: _ :: _ :: _ :: _ :: _ :: _ :: F) from St.pk [[_], [_], [_], [_], [_], [_], [_], [_], [_]] [0,1,3,2,4,6,7,8] gI)
  refine zG0 ([_,_]) (fun i Bx => ∃ M, Bx = (gh, blk 120 (iv (oftTo f lot day i))) :: M ∧ Memo f mm M) (fun _ _ => False) rfl rfl rfl call88 (zDv f p 0 cb mm (CK.cons (CK.cons (zEs (but := 0) (cb := cb) (mm := mm) (FIn.cons (FIn.cons (FIn.cons hm))) hf (by omega)))) bp (aow 0 [_])) gJ (zBp [_] [_,_] _) ⟨[_], rfl, zE1 f mm⟩ ?_ ?_ ?_
  ·
   intro lp i hi Bx Xr Xr2 jg hJ hs K gK
   obtain ⟨M3, rfl, g3⟩ := hJ
   have hi2 : i < (truths f 0).length := by simpa using hi
   rw [List.getElem_map]
   obtain ⟨x, hxe⟩ : ∃ x, x = (truths f 0)[i] := ⟨_, rfl⟩
   have hx := zFu hf (List.getElem_mem hi2)
   rw [← hxe] at hx ⊢
   have hx4 := hx.1
   have hol := oft_len f lot day i (by omega)
   have hwi := with_in hf hx hl
   obtain ⟨wq, hwq⟩ : ∃ wq : Nat, withP f x lot = (wq : Int) := ⟨(withP f x lot).toNat, by omega⟩
   have hwu : wq < f.until_.length := by omega
   obtain ⟨bu, ou, hbu, hu⟩ := zCx hm.u hwu
   have hob := oft_bd f lot day i (by omega) wq
   have hk : CK w0 ((bp, blk 114 [.pointer (some ⟨cb, 0, none⟩)]) :: (g5, blk 114 [.pointer (some ⟨cb, 0, none⟩)]) :: (cb, blk 151 [.slice p.ap f.parties.length p.cp, .slice p.au f.until_.length p.cu, .slice p.al f.lots.length p.cl, .slice p.aq f.paps.length p.cq, .slice p.ac f.clms.length p.cc, .int .i64 ((0 : Nat) : Int), .map (some mm)]) :: (b9, blk 3 [.int .i64 day]) :: (b6, blk 3 [.int .i64 (lot : Int)]) :: (b3, blk 56 (f.cells p)) :: F) f p 0 cb mm := (CK.cons (CK.cons (zEs (but := 0) (cb := cb) (mm := mm) (FIn.cons (FIn.cons (FIn.cons hm))) hf (by omega))))
   have hxA : Ats w0 ((bp, blk 114 [.pointer (some ⟨cb, 0, none⟩)]) :: (g5, blk 114 [.pointer (some ⟨cb, 0, none⟩)]) :: (cb, blk 151 [.slice p.ap f.parties.length p.cp, .slice p.au f.until_.length p.cu, .slice p.al f.lots.length p.cl, .slice p.aq f.paps.length p.cq, .slice p.ac f.clms.length p.cc, .int .i64 ((0 : Nat) : Int), .map (some mm)]) :: (b9, blk 3 [.int .i64 day]) :: (b6, blk 3 [.int .i64 (lot : Int)]) :: (b3, blk 56 (f.cells p)) :: F) g5 0 [.pointer (some ⟨cb, 0, none⟩)] := zB9 (i := 1) rfl rfl
   have hx5 : Ats w0 ((bp, blk 114 [.pointer (some ⟨cb, 0, none⟩)]) :: (g5, blk 114 [.pointer (some ⟨cb, 0, none⟩)]) :: (cb, blk 151 [.slice p.ap f.parties.length p.cp, .slice p.au f.until_.length p.cu, .slice p.al f.lots.length p.cl, .slice p.aq f.paps.length p.cq, .slice p.ac f.clms.length p.cc, .int .i64 ((0 : Nat) : Int), .map (some mm)]) :: (b9, blk 3 [.int .i64 day]) :: (b6, blk 3 [.int .i64 (lot : Int)]) :: (b3, blk 56 (f.cells p)) :: F) b9 0 [.int .i64 day] := zB9 (i := 3) rfl rfl
   have hxB : Ats w0 ((bp, blk 114 [.pointer (some ⟨cb, 0, none⟩)]) :: (g5, blk 114 [.pointer (some ⟨cb, 0, none⟩)]) :: (cb, blk 151 [.slice p.ap f.parties.length p.cp, .slice p.au f.until_.length p.cu, .slice p.al f.lots.length p.cl, .slice p.aq f.paps.length p.cq, .slice p.ac f.clms.length p.cc, .int .i64 ((0 : Nat) : Int), .map (some mm)]) :: (b9, blk 3 [.int .i64 day]) :: (b6, blk 3 [.int .i64 (lot : Int)]) :: (b3, blk 56 (f.cells p)) :: F) b6 0 [.int .i64 (lot : Int)] := zB9 (i := 4) rfl rfl
   have hx3 : Ats w0 ((bp, blk 114 [.pointer (some ⟨cb, 0, none⟩)]) :: (g5, blk 114 [.pointer (some ⟨cb, 0, none⟩)]) :: (cb, blk 151 [.slice p.ap f.parties.length p.cp, .slice p.au f.until_.length p.cu, .slice p.al f.lots.length p.cl, .slice p.aq f.paps.length p.cq, .slice p.ac f.clms.length p.cc, .int .i64 ((0 : Nat) : Int), .map (some mm)]) :: (b9, blk 3 [.int .i64 day]) :: (b6, blk 3 [.int .i64 (lot : Int)]) :: (b3, blk 56 (f.cells p)) :: F) b3 0 (f.cells p) := zB9 (i := 5) rfl rfl
   replace hs := (show St _ _ (_ :: (M3 ++ (Xr ++ ((bp, blk 114 [.pointer (some ⟨cb, 0, none⟩)]) :: (g5, blk 114 [.pointer (some ⟨cb, 0, none⟩)]) :: (cb, blk 151 [.slice p.ap f.parties.length p.cp, .slice p.au f.until_.length p.cu, .slice p.al f.lots.length p.cl, .slice p.aq f.paps.length p.cq, .slice p.ac f.clms.length p.cc, .int .i64 ((0 : Nat) : Int), .map (some mm)]) :: (b9, blk 3 [.int .i64 day]) :: (b6, blk 3 [.int .i64 (lot : Int)]) :: (b3, blk 56 (f.cells p)) :: F)))) from hs)
   refine zAb (zA1 (cs := iv [0,0,0,0]) zAa zeroValue121 rfl hs (fun gL jh gM => ?_))
   refine zDg (i := 0) (l := _) zAa sizeOf121 (by first | omega | rfl | (simp only [hx4, hol, zL] <;> omega)) rfl rfl rfl rfl rfl gM rfl (by first | omega | rfl | (simp only [hx4, hol, zL] <;> omega)) (fun ji gN => ?_)
   refine zAd (zAc (gK _ _ (_ :: _ :: M3) gN (fun jj g6 => ?_)))
   replace g6 := (show St _ _ (_ :: _ :: M3 ++ (Xr2 ++ (_ :: _ :: _ :: _ :: _ :: _ :: F))) from g6)
   refine zAq ?_
   refine zAf (fun jk gO => (zAb (w_p (zAg isAgg114 g6.tail.tail.drop.drop rfl rfl hxA) rfl (w_p (zCt (i := 0) isAgg121 sizeOf121 (by first | omega | rfl | (simp only [hx4, hol, zL] <;> omega)) g6 rfl rfl rfl) rfl ?_))))
   refine w_p (zAg isAgg3 g6.tail.tail.drop.drop rfl rfl hxB) rfl (zCo zAa call68 rfl rfl rfl rfl (c68 f p 0 cb mm hk.app.app.cons.cons x hx lot hl g6) (fun jl gP => ?_))
   refine zBw rfl rfl (zAd (zAc (gO _ _ (zAf (fun jm gj => (zG1 (C := fun w => ∃ M, Memo f mm M ∧ St w0 w ((gL, blk 121 (iv x)) :: (gh, blk 120 (iv (oftTo f lot day i))) :: (M ++ (Xr2 ++ ((bp, blk 114 [.pointer (some ⟨cb, 0, none⟩)]) :: (g5, blk 114 [.pointer (some ⟨cb, 0, none⟩)]) :: (cb, blk 151 [.slice p.ap f.parties.length p.cp, .slice p.au f.until_.length p.cu, .slice p.al f.lots.length p.cl, .slice p.aq f.paps.length p.cq, .slice p.ac f.clms.length p.cc, .int .i64 ((0 : Nat) : Int), .map (some mm)]) :: (b9, blk 3 [.int .i64 day]) :: (b6, blk 3 [.int .i64 (lot : Int)]) :: (b3, blk 56 (f.cells p)) :: F))))) [] [(0,1),(1,1),(2,1),(3,2),(4,0),(5,0),(6,1),(7,0),(8,1),(9,0),(10,0),(11,1),(12,0),(13,0)] zB4 (zBk (by kernel_rfl)) ⟨_, g3, gP⟩ (fun _ ⟨M, h1, h2⟩ => ⟨M, h1, h2.drew⟩) (fun jo ⟨M3, g3, g9⟩ => ?_)))))))
   refine zCe rfl zAa rfl ⟨_, g3, g9⟩ (fun _ ⟨M3, g3, hq⟩ => (zAg isAgg114 hq.tail.tail.drop.drop rfl rfl hxA)) ?_
   refine zCe rfl zAa rfl ⟨_, g3, g9⟩ (fun _ ⟨M3, g3, hq⟩ => (zCt (i := 0) isAgg121 sizeOf121 (by first | omega | rfl | (simp only [hx4, hol, zL] <;> omega)) hq rfl rfl rfl)) ?_
   refine zCe rfl zAa rfl ⟨_, g3, g9⟩ (fun _ ⟨M3, g3, hq⟩ => (zAg isAgg3 hq.tail.tail.drop.drop rfl rfl hxB)) ?_
   refine zBh rfl ?_
   refine zA4 zAa call72 rfl rfl rfl rfl (c72 (X := [_,_]) (M := M3) (F := Xr2 ++ ((bp, blk 114 [.pointer (some ⟨cb, 0, none⟩)]) :: (g5, blk 114 [.pointer (some ⟨cb, 0, none⟩)]) :: (cb, blk 151 [.slice p.ap f.parties.length p.cp, .slice p.au f.until_.length p.cu, .slice p.al f.lots.length p.cl, .slice p.aq f.paps.length p.cq, .slice p.ac f.clms.length p.cc, .int .i64 ((0 : Nat) : Int), .map (some mm)]) :: (b9, blk 3 [.int .i64 day]) :: (b6, blk 3 [.int .i64 (lot : Int)]) :: (b3, blk 56 (f.cells p)) :: F)) f p 0 cb mm hk.app x hx lot g3 g9) ?_
   rintro _ jp ⟨rfl, M4, g0, g4⟩
   replace g4 := (show St _ _ (_ :: _ :: M4 ++ (Xr2 ++ (_ :: _ :: _ :: _ :: _ :: _ :: F))) from g4)
   refine zAd (qn ⟨⟨_, g0, g4⟩, ?_⟩)
   refine d_w rfl (fun _ => zDo rfl rfl) rfl (d_w rfl (fun _ => zAt rfl rfl) rfl ?_)
   refine zC6 (fun ga => ?_) (fun ga => ?_)
   ·
    try simp only [zS] at ga
    refine zCe rfl (zAh rfl rfl rfl) rfl ⟨_, g0, g4⟩ (fun _ ⟨M3, g3, hq⟩ => (zAg isAgg3 hq.tail.tail.drop.drop rfl rfl hx5)) ?_
    refine zBe rfl (zAh rfl rfl rfl) rfl (fun _ => (zAe (o := 1) (i := 1) underlying56 rfl sizeOf22 rfl rfl rfl)) ?_
    refine zCe rfl (zAh rfl rfl rfl) rfl ⟨_, g0, g4⟩ (fun _ ⟨M3, g3, hq⟩ => (zCl hbu (zAg isAgg22 hq.tail.tail.drop.drop rfl rfl (show Ats _ _ _ _ [_] from Ats.part hx3 1 1)))) ?_
    refine zBe rfl (zAh rfl rfl rfl) rfl (fun _ => (zAy rfl rfl)) ?_
    refine zBe rfl (zAh rfl rfl rfl) rfl (fun _ => (zA7 underlying22 sizeOf3 rfl rfl rfl rfl (i := wq) hwq hwu)) ?_
    refine zCe rfl (zAh rfl rfl rfl) rfl ⟨_, g0, g4⟩ (fun _ ⟨M3, g3, hq⟩ => (zAg isAgg3 hq.tail.tail.drop.drop.tail.tail.tail.tail.tail.tail rfl rfl hu)) ?_
    refine zBe rfl (zAh rfl rfl rfl) rfl (fun _ => (zFc rfl rfl rfl rfl)) ?_
    refine d_w rfl (fun _ => zA5 (v := .bool _) rfl rfl rfl rfl) rfl ?_
    refine zBm ?_
    refine zAc (gj _ _ (zAr rfl rfl (fun gc => ?_) (fun gc => ?_)))
    ·
     try simp only [zS] at gc
     refine zAb (zA6 rfl rfl (w_p (zCw underlying120 sizeOf3 rfl rfl rfl rfl (i := wq) hwq (by omega)) rfl (w_p (zAg isAgg3 g4 rfl rfl (zC9 (i := 1) (j := wq) rfl (by first | omega | rfl | (simp only [hx4, hol, zL] <;> omega)))) rfl ?_)))
     refine w_p (zBo rfl rfl rfl rfl (by omega) (by omega)) rfl (w_p (zCw underlying120 sizeOf3 rfl rfl rfl rfl (i := wq) hwq (by omega)) rfl (zDp (i := 1) (j := wq) zAa sizeOf3 rfl rfl rfl rfl g4 rfl (by first | omega | rfl | (simp only [hx4, hol, zL] <;> omega)) (fun jq gQ => ?_)))
     refine zAd (zAi (zD2 (_ :: M4) gQ.tail ?_))
     first
       | exact ⟨M4, by rw [oft_no1 hi2 (by rw [← hxe]; assumption)], g0⟩
       | exact ⟨M4, by rw [oft_no2 hi2 (by rw [← hxe]; exact hwq) hwu (by omega)], g0⟩
       | exact ⟨M4, by rw [oft_yes hi2 (by rw [← hxe]; exact hwq) hwu (by rw [← hxe]; assumption) (by omega)], g0⟩
    try simp only [zS] at gc
    refine zAn (zAi (zD2 (_ :: M4) g4.tail ?_))
    first
      | exact ⟨M4, by rw [oft_no1 hi2 (by rw [← hxe]; assumption)], g0⟩
      | exact ⟨M4, by rw [oft_no2 hi2 (by rw [← hxe]; exact hwq) hwu (by omega)], g0⟩
      | exact ⟨M4, by rw [oft_yes hi2 (by rw [← hxe]; exact hwq) hwu (by rw [← hxe]; assumption) (by omega)], g0⟩
   try simp only [zS] at ga
   refine d_skipC rfl rfl rfl rfl ⟨_, g0, g4⟩ ?_
   refine zBl rfl rfl rfl rfl ?_
   refine d_skipC rfl rfl rfl rfl ⟨_, g0, g4⟩ ?_
   refine zBl rfl rfl rfl rfl ?_
   refine zBl rfl rfl rfl rfl ?_
   refine d_skipC rfl rfl rfl rfl ⟨_, g0, g4⟩ ?_
   refine zBl rfl rfl rfl rfl ?_
   refine d_w rfl (fun _ => zBg (v := _) rfl rfl rfl rfl) rfl ?_
   refine zBm ?_
   refine zAc (gj _ _ (zBs rfl rfl ?_))
   refine zAn (zAi (zD2 (_ :: M4) g4.tail ?_))
   first
     | exact ⟨M4, by rw [oft_no1 hi2 (by rw [← hxe]; assumption)], g0⟩
     | exact ⟨M4, by rw [oft_no2 hi2 (by rw [← hxe]; exact hwq) hwu (by omega)], g0⟩
     | exact ⟨M4, by rw [oft_yes hi2 (by rw [← hxe]; exact hwq) hwu (by rw [← hxe]; assumption) (by omega)], g0⟩
  ·
   intro bd Bx jr hJ hs
   obtain ⟨M3, rfl, g3⟩ := hJ
   rw [List.length_map] at hs
   have hol := oft_len f lot day _ (Nat.le_refl _)
   replace hs := (show St _ _ (_ :: _ :: (M3 ++ ((bp, blk 114 [.pointer (some ⟨cb, 0, none⟩)]) :: (g5, blk 114 [.pointer (some ⟨cb, 0, none⟩)]) :: (cb, blk 151 [.slice p.ap f.parties.length p.cp, .slice p.au f.until_.length p.cu, .slice p.al f.lots.length p.cl, .slice p.aq f.paps.length p.cq, .slice p.ac f.clms.length p.cc, .int .i64 ((0 : Nat) : Int), .map (some mm)]) :: (b9, blk 3 [.int .i64 day]) :: (b6, blk 3 [.int .i64 (lot : Int)]) :: (b3, blk 56 (f.cells p)) :: F))) from hs)
   refine zAi (zAc (gG _ _ (zAf (fun js gR => (zAf (fun jt gS => (zAb (w_p (zCt (i := 1) isAgg120 sizeOf120 (by first | omega | rfl | (simp only [hx4, hol, zL] <;> omega)) hs rfl rfl rfl) rfl ?_))))))))
   refine w_p (zBy (v := _) rfl rfl) rfl (zAd (zAc (gS _ _ (zAq ?_))))
   have gT := (show St _ _ (_ :: F) from St.pk [[_], [_], M3, [_], [_], [_], [_], [_], [_]] [0] hs)
   refine zB6 [6,7,14,15,59,60,61,62,63,64,65,66,67,68] [6,7,59] (fun kk vs w => ∃ q : Nat, vs = [.int .i64 (bestTo (oftTo f lot day (truths f 0).length) q).1, .int .i64 (bestTo (oftTo f lot day (truths f 0).length) q).2, .int .i64 (q : Int)] ∧ q ≤ 4 ∧ kk = 4 - q ∧ St w0 w ((bd, .deferred (some [])) :: F)) (4) ?_ ?_
   ·
    exact ⟨0, rfl, by omega, by omega, gT⟩
   intro k vs μ ju hI jv gk
   clear hs
   obtain ⟨q, rfl, hqa, rfl, hs⟩ := hI
   refine zAf (fun jw gU => (zAb (w_p (zCp rfl rfl rfl rfl) rfl (zAd (zAc (gU _ _ (zAf (fun jx gV => (zAr rfl rfl (fun gd => ?_) (fun gd => ?_))))))))))
   ·
    try simp only [zS] at gd
    refine zAn (zAc (gV _ _ (zAf (fun jy gm => (zAq ?_)))))
    refine zAf (fun jz gW => (zAb (zA6 rfl rfl (w_p (y_indexV (i := q) underlying120 underlying3 sizeOf3 rfl rfl rfl rfl rfl rfl (by omega) (by first | omega | rfl | (simp only [hx4, hol, zL] <;> omega))) rfl ?_))))
    refine zBw rfl rfl (zBw rfl rfl (zAd (zAc (gW _ _ (zAf (fun jA gX => (zAb (zA6 rfl rfl (zA6 rfl rfl (w_p (zEf rfl rfl rfl rfl) rfl (zAd (zAc (gX _ _ (zAr rfl rfl (fun ge => ?_) (fun ge => ?_)))))))))))))))
    ·
     try simp only [zS] at ge
     refine zAb (zA6 rfl rfl (zA6 rfl rfl (zBw rfl rfl (zBw rfl rfl (zAd (zAi (zAc (gm _ _ (zAb (w_p (zBo rfl rfl rfl rfl (by omega) (by omega)) rfl ?_))))))))))
     refine zA6 rfl rfl (zAd (zAc (gk _ _ (nxI (4 - (q + 1)) (by omega) ?_))))
     first
       | exact ⟨q + 1, iv3 (by rw [zJc (by assumption)]) (by rw [zJc (by assumption)]) rfl, by omega, rfl, hs⟩
       | exact ⟨q + 1, iv3 (by rw [best_no (by omega)]) (by rw [best_no (by omega)]) rfl, by omega, rfl, hs⟩
    try simp only [zS] at ge
    refine zAn (zAi (zAc (gm _ _ (zAb (w_p (zBo rfl rfl rfl rfl (by omega) (by omega)) rfl (zA6 rfl rfl (zAd (zAc (gk _ _ (nxI (4 - (q + 1)) (by omega) ?_))))))))))
    first
      | exact ⟨q + 1, iv3 (by rw [zJc (by assumption)]) (by rw [zJc (by assumption)]) rfl, by omega, rfl, hs⟩
      | exact ⟨q + 1, iv3 (by rw [best_no (by omega)]) (by rw [best_no (by omega)]) rfl, by omega, rfl, hs⟩
   try simp only [zS] at gd
   refine zBt (zAj (zAj (zAv (zAc (gR _ _ (zAf (fun jB gY => (zAf (fun jC gZ => (zAb (zA6 rfl rfl (w_p (zCa rfl rfl rfl rfl) rfl ?_))))))))))))
   refine zAd (zAc (gZ _ _ (zAr rfl rfl (fun gf => ?_) (fun gf => ?_))))
   ·
    try simp only [zS] at gf
    refine zAf (fun jD hD => (zAb (zBi rfl rfl (zBi rfl rfl (zBi rfl rfl (zAd (zAc (hD _ _ (zA8 (zAl (zGa (i := 0) (l := [.tmp 6, .tmp 7, .tmp 8]) (vs := [_,_,_]) hs rfl rfl (fun jE gn => ⟨⟨⟨rfl, (rfl : _ = Value.int _ _)⟩, ⟨rfl, (rfl : _ = Value.int _ _)⟩, ⟨rfl, (rfl : _ = Value.int _ _)⟩, trivial⟩, ?_⟩))))))))))))
    have hq4 : q = 4 := by omega
    subst hq4
    first
      | exact ⟨tup3 (next_z (by assumption)), gn.tail⟩
      | exact ⟨tup3 (next_y (by assumption)), gn.tail⟩
   try simp only [zS] at gf
   refine zAn (zAc (gY _ _ (zAf (fun jF hN => (zAb (zA6 rfl rfl (zA6 rfl rfl (zBw rfl rfl (zBw rfl rfl (zBi rfl rfl (zAd (zAc (hN _ _ (zA8 (zGa (i := 0) (l := [.tmp 6, .tmp 7, .tmp 8]) (vs := [_,_,_]) hs rfl rfl (fun jG go => ⟨⟨⟨rfl, (rfl : _ = Value.int _ _)⟩, ⟨rfl, (rfl : _ = Value.int _ _)⟩, ⟨rfl, (rfl : _ = Value.int _ _)⟩, trivial⟩, ?_⟩))))))))))))))))
   have hq4 : q = 4 := by omega
   subst hq4
   first
     | exact ⟨tup3 (next_z (by assumption)), go.tail⟩
     | exact ⟨tup3 (next_y (by assumption)), go.tail⟩
  intro _ _ _ _ hJ
  exact hJ.elim

end Go.Proofs.Uc
/- Plain words of the claim layer: the fewest papers that must be wrong, step by step. No conditions. -/
namespace Go.Rt.Cm
open Go.Rt.Ha (felt spanL upto bit listL fewest Bunch zD4 zC4 at_ zBv zDu upto_nodup zC2 bit01)
theorem shl_32 {n : Nat} (h : n ≤ 5) : 1 <<< n = 2 ^ n ∧ 1 <<< n ≤ 32 := by
  have h2 : 2 ^ n ≤ 2 ^ 5 := Nat.pow_le_pow_right (by omega) h
  rw [Nat.shiftLeft_eq, Nat.one_mul]
  exact ⟨rfl, h2⟩
theorem wr_1 {f : File} {s : Nat} {wl : List Int} (hw : wrongTo f s = (wl, true)) (h : wl.length < (listL s f.paps.length).length) : wrongTo f (s + 1) = (wl, true) := by
  rw [wrongTo, wrongSt, hw, if_pos]; simp [h]
theorem wr_2 {f : File} {s : Nat} {wl : List Int} (hw : wrongTo f s = (wl, true)) (h : (listL s f.paps.length).length = wl.length) (h2 : Go.Rt.less wl (listL s f.paps.length) = true) : wrongTo f (s + 1) = (wl, true) := by
  rw [wrongTo, wrongSt, hw, if_pos]; simp [h, h2]
theorem wr_y {f : File} {s : Nat} {wl : List Int} {wb : Bool} (hw : wrongTo f s = (wl, wb)) (hc : (wb && (decide (wl.length < (listL s f.paps.length).length) || (decide ((listL s f.paps.length).length = wl.length) && Go.Rt.less wl (listL s f.paps.length)))) = false) (ht : (truths f s).isEmpty = false) : wrongTo f (s + 1) = (listL s f.paps.length, true) := by
  rw [wrongTo, wrongSt, hw, if_neg (by rw [hc]; simp), if_pos (by rintro e; rw [e] at ht; cases ht)]
theorem wr_n {f : File} {s : Nat} {wl : List Int} {wb : Bool} (hw : wrongTo f s = (wl, wb)) (hc : (wb && (decide (wl.length < (listL s f.paps.length).length) || (decide ((listL s f.paps.length).length = wl.length) && Go.Rt.less wl (listL s f.paps.length)))) = false) (ht : (truths f s).isEmpty = true) : wrongTo f (s + 1) = (wl, wb) := by
  rw [wrongTo, wrongSt, hw, if_neg (by rw [hc]; simp), if_neg (by intro h; cases hq : truths f s with | nil => exact h hq | cons _ _ => rw [hq] at ht; cases ht)]
theorem wrong_at {f : File} {wl : List Int} {wb : Bool} {s : Nat} (hs : s = 1 <<< f.paps.length) (hw : wrongTo f s = (wl, wb)) : wrong f = wl := by
  unfold wrong; rw [← Nat.one_mul (2 ^ _), ← Nat.shiftLeft_eq, ← hs, hw]
end Go.Rt.Cm
set_option maxRecDepth 20000
namespace Go.Proofs.Uc
open Go.Proofs.Tryz
open Go.Rt Go.Rt.Cm
open Go.Rt.Ha (felt spanL upto zBv listL bit Bunch zB8 zCi zBx zB2 zCg zCf zBu)
attribute [local irreducible] WL WC Con Yd At Ats Sl Agree DW

theorem c37 {w0 w : World} {F : List (Nat × Obj)} (f : File) (p : AtF) (hm : FIn w0 F f p) (hf : f.Ok) (hs : St w0 w F) :
  Con Tryz.prog 37 [.agg (f.cells p).toArray] w fun v w' => ∃ B a c, v = .tuple #[.slice a (wrong f).length c, .int .i64 0] ∧ Sl w0 B a 1 ((wrong f).map fun x => [Value.int .i64 x]) ∧ St w0 w' (B ++ F) := by
  refine zAo (n := 56) func37 rfl rfl (zNl rfl) ?_
  have hlp := hf.lp
  obtain ⟨K, hKn⟩ : ∃ K : Nat, 1 <<< f.paps.length = K := ⟨_, rfl⟩
  have hK : ((1 <<< f.paps.length : Nat) : Int) = (K : Int) := by rw [hKn]
  have hsh := (shl_32 hlp).2
  rw [hKn] at hsh
  refine zAf (fun K2 gE => (zAb (zCj (v := .agg #[.slice _ _ _, .slice _ _ _, .slice _ _ _, .slice _ _ _, .slice _ _ _]) (cs := [_,_,_,_,_]) zAa rfl rfl rfl hs (fun b3 w4 gt => ?_))))
  refine zBi rfl rfl (zBi rfl rfl (zAd (zAc (gE _ _ (zAf (fun K7 gF => (zAf (fun K9 gG => (zAb (w_p (zA2 (vs := [_,_,_,_,_]) isAgg56 sizeOf56 gt rfl rfl (aow 0 [_,_,_,_,_])) rfl ?_))))))))))
  refine zCo zAa call74 rfl rfl rfl rfl (c74 f p hm.cons hf gt) (fun j0 gu => ?_)
  refine w_p (zA3 rfl rfl) rfl (w_p (zAk rfl rfl rfl) rfl (w_p (zAk rfl rfl rfl) rfl (w_p (zAk rfl rfl rfl) rfl (zBw rfl rfl (zAd (zAc (gG _ _ (zAf (fun j1 gH => (zAb (zA6 rfl rfl ?_)))))))))))
  refine w_p (zCs rfl rfl rfl rfl) rfl (zAd (zAc (gH _ _ (zBs rfl rfl ?_))))
  refine zAn (zAc (gF _ _ (zAf (fun j3 gI => (zAb (zBi rfl rfl (zAd (zAc (gI _ _ (zAf (fun j4 gJ => (zAf (fun j5 gK => (zAb (w_p (zAe (o := 3) (i := 3) underlying56 rfl sizeOf53 rfl rfl rfl) rfl ?_)))))))))))))))
  refine w_p (zAg isAgg53 gu rfl rfl (aow 0 [_])) rfl (w_p (zBc underlying53 rfl rfl) rfl (w_p (zHz (z' := (K : Int)) hK (y_shl (x := 1) (y := f.paps.length) rfl rfl rfl rfl rfl (by first | rfl | omega) (by first | omega | exact zCr (by omega)) (by first | omega | exact zCr (by omega)))) rfl ?_))
  refine w_p (zBy (v := _) rfl rfl) rfl (zAd (zAc (gK _ _ (zAq ?_))))
  refine zB6 [2,4,5,6,20,21,22,23,24,25,26,27,28,29,30,31,32,33,34,35,36,37,38,39,40,41,42,43,44,45,46,47,48,49,50,51,52,53,54] [2,4,20] (fun kk vs w => ∃ (s : Nat) (wl : List Int) (wb : Bool) (aW : Option Addr) (cW : Nat) (OB : List (Nat × Obj)), vs = [.slice aW wl.length cW, .bool wb, .int .i64 (s : Int)] ∧ wrongTo f s = (wl, wb) ∧ s ≤ K ∧ kk = K - s ∧ Sl w0 OB aW 1 (wl.map fun x => [Value.int .i64 x]) ∧ wl.length ≤ 5 ∧ St w0 w ((b3, blk 56 (f.cells p)) :: (OB ++ F))) (K) ?_ ?_
  ·
   exact ⟨0, [], false, none, 0, [], rfl, rfl, by omega, by omega, Sl.nil _ _, by simp, gu⟩
  intro k vs μ j6 hI j7 g0
  clear hs
  obtain ⟨s, wl, wb, aW, cW, OB, rfl, hw, hsa, rfl, hslO, hwl, hs⟩ := hI
  refine zAf (fun j8 gL => (zAb (w_p (zCp rfl rfl rfl rfl) rfl (zAd (zAc (gL _ _ (zAf (fun j9 gM => (zAr rfl rfl (fun g7 => ?_) (fun g7 => ?_))))))))))
  ·
   try simp only [zS] at g7
   refine zAn (zAc (gM _ _ (zAf (fun ja g3 => (zAq ?_)))))
   refine zAf (fun jb gN => (zAb (zA6 rfl rfl (zBw rfl rfl (zAd (zAc (gN _ _ (zAf (fun jc gO => ?_)))))))))
   have hle := zDx s f.paps.length
   refine zAb (zA6 rfl rfl (w_p (zAe (o := 3) (i := 3) underlying56 rfl sizeOf53 rfl rfl rfl) rfl (w_p (zAg isAgg53 hs rfl rfl (aow 0 [_])) rfl (w_p (zBc underlying53 rfl rfl) rfl ?_))))
   refine zA4 zAa call69 rfl rfl rfl rfl (c69 s f.paps.length (by omega) (by omega) hs) ?_
   rintro _ jd ⟨B, aB, cB, rfl, hslB, g8⟩
   replace g8 := (show St _ _ (B ++ (_ :: OB ++ (F))) from g8)
   have g4 := (show St _ _ (_ :: (B ++ ((OB ++ (F))))) from St.pk [B, [_], OB] [1,0,2] g8)
   refine w_p (zBz rfl rfl) rfl (zAd (zAc (gO _ _ (zAf (fun je g9 => (zAf (fun jf g5 => (zAb (w_p (zAt rfl rfl) rfl (w_p (zAt rfl rfl) rfl ?_))))))))))
   refine zB5 (fun ga => ?_) (fun ga => ?_)
   ·
    subst ga
    refine w_y rfl rfl rfl (zAx rfl rfl) rfl ?_
    refine w_y rfl rfl rfl (zBc underlying22 rfl rfl) rfl ?_
    refine w_y rfl rfl rfl (zAx rfl rfl) rfl ?_
    refine w_y rfl rfl rfl (zBc underlying22 rfl rfl) rfl ?_
    refine w_y rfl rfl rfl (zEf rfl rfl rfl rfl) rfl ?_
    refine w_y rfl rfl rfl (zAt rfl rfl) rfl ?_
    refine zB5 (fun gc => ?_) (fun gc => ?_)
    ·
     try simp only [zS] at gc
     refine zAm rfl rfl rfl ?_
     refine zAm rfl rfl rfl ?_
     refine zAm rfl rfl rfl ?_
     refine zAm rfl rfl rfl ?_
     refine zAm rfl rfl rfl ?_
     refine zAm rfl rfl rfl ?_
     refine zBd rfl rfl rfl ?_
     refine zBd rfl rfl rfl ?_
     refine zBd rfl rfl rfl ?_
     refine zBd rfl rfl rfl ?_
     refine zAm rfl rfl rfl ?_
     refine w_y rfl rfl rfl (zA5 (v := _) rfl rfl rfl rfl) rfl ?_
     refine w_p (zA5 (v := .bool _) rfl rfl rfl rfl) rfl (zAd (zAc (g5 _ _ (zDb rfl rfl ?_))))
     refine zBt (zAj (zAv (zAc (g3 _ _ (zAb (w_p (zBo rfl rfl rfl rfl (by omega) (by omega)) rfl (zA6 rfl rfl (zAd (zAc (g0 _ _ (nxI (K - (s + 1)) (by omega) ?_)))))))))))
     have gP := (show St _ _ (_ :: (B ++ (F))) from St.pk [[_], B, OB] [0,1] g4)
     have gd := (show St _ _ (_ :: (OB ++ (F))) from St.pk [[_], B, OB] [0,2] g4)
     first
       | exact ⟨s + 1, wl, true, aW, cW, OB, rfl, wr_1 hw (by omega), by omega, rfl, hslO, hwl, gd⟩
       | exact ⟨s + 1, wl, true, aW, cW, OB, rfl, wr_2 hw (by omega) (by rw [← hz]; exact decide_eq_true (by omega)), by omega, rfl, hslO, hwl, gd⟩
       | exact ⟨s + 1, _, true, aB, cB, B, rfl, wr_y hw (by first | rfl | (rw [decide_eq_false (show ¬ wl.length < (listL s f.paps.length).length by omega), decide_eq_false (show ¬ (listL s f.paps.length).length = wl.length by omega)]; rfl) | (rw [decide_eq_false (show ¬ wl.length < (listL s f.paps.length).length by omega), ← hz, decide_eq_false (show ¬ 0 < z by omega), Bool.and_false]; rfl)) (by assumption), by omega, rfl, hslB, by omega, gP⟩
       | exact ⟨s + 1, wl, _, aW, cW, OB, rfl, wr_n hw (by first | rfl | (rw [decide_eq_false (show ¬ wl.length < (listL s f.paps.length).length by omega), decide_eq_false (show ¬ (listL s f.paps.length).length = wl.length by omega)]; rfl) | (rw [decide_eq_false (show ¬ wl.length < (listL s f.paps.length).length by omega), ← hz, decide_eq_false (show ¬ 0 < z by omega), Bool.and_false]; rfl)) (by assumption), by omega, rfl, hslO, hwl, gd⟩
    try simp only [zS] at gc
    refine w_y rfl rfl rfl (zAx rfl rfl) rfl ?_
    refine w_y rfl rfl rfl (zBc underlying22 rfl rfl) rfl ?_
    refine w_y rfl rfl rfl (zAx rfl rfl) rfl ?_
    refine w_y rfl rfl rfl (zBc underlying22 rfl rfl) rfl ?_
    refine w_y rfl rfl rfl (zCa rfl rfl rfl rfl) rfl ?_
    refine w_y rfl rfl rfl (zAt rfl rfl) rfl ?_
    refine zB5 (fun ge => ?_) (fun ge => ?_)
    ·
     try simp only [zS] at ge
     refine w_y rfl rfl rfl (zAx rfl rfl) rfl ?_
     refine w_y rfl rfl rfl (zAx rfl rfl) rfl ?_
     refine zA4 (zAh rfl rfl rfl) call75 rfl rfl rfl rfl (Go.Proofs.Ut.c75 aB aW (listL s f.paps.length) wl cB cW (by omega) (by omega) (Sl.top hslB).cons (Sl.top hslO).app.cons g4) ?_
     rintro _ jg ⟨⟨z, rfl, hz⟩, g6⟩
     refine w_y rfl rfl rfl (zEf rfl rfl rfl rfl) rfl ?_
     refine w_y rfl rfl rfl (zA5 (v := .bool _) rfl rfl rfl rfl) rfl ?_
     refine w_y rfl rfl rfl (zBg (v := .bool _) rfl rfl rfl rfl) rfl ?_
     refine w_p (zA5 (v := .bool _) rfl rfl rfl rfl) rfl (zAd (zAc (g5 _ _ (zAr rfl rfl (fun gf => ?_) (fun gf => ?_)))))
     ·
      try simp only [zS] at gf
      refine zBt (zAj (zAv (zAc (g3 _ _ (zAb (w_p (zBo rfl rfl rfl rfl (by omega) (by omega)) rfl (zA6 rfl rfl (zAd (zAc (g0 _ _ (nxI (K - (s + 1)) (by omega) ?_)))))))))))
      have gQ := (show St _ _ (_ :: (B ++ (F))) from St.pk [[_], B, OB] [0,1] g6)
      have gg := (show St _ _ (_ :: (OB ++ (F))) from St.pk [[_], B, OB] [0,2] g6)
      first
        | exact ⟨s + 1, wl, true, aW, cW, OB, rfl, wr_1 hw (by omega), by omega, rfl, hslO, hwl, gg⟩
        | exact ⟨s + 1, wl, true, aW, cW, OB, rfl, wr_2 hw (by omega) (by rw [← hz]; exact decide_eq_true (by omega)), by omega, rfl, hslO, hwl, gg⟩
        | exact ⟨s + 1, _, true, aB, cB, B, rfl, wr_y hw (by first | rfl | (rw [decide_eq_false (show ¬ wl.length < (listL s f.paps.length).length by omega), decide_eq_false (show ¬ (listL s f.paps.length).length = wl.length by omega)]; rfl) | (rw [decide_eq_false (show ¬ wl.length < (listL s f.paps.length).length by omega), ← hz, decide_eq_false (show ¬ 0 < z by omega), Bool.and_false]; rfl)) (by assumption), by omega, rfl, hslB, by omega, gQ⟩
        | exact ⟨s + 1, wl, _, aW, cW, OB, rfl, wr_n hw (by first | rfl | (rw [decide_eq_false (show ¬ wl.length < (listL s f.paps.length).length by omega), decide_eq_false (show ¬ (listL s f.paps.length).length = wl.length by omega)]; rfl) | (rw [decide_eq_false (show ¬ wl.length < (listL s f.paps.length).length by omega), ← hz, decide_eq_false (show ¬ 0 < z by omega), Bool.and_false]; rfl)) (by assumption), by omega, rfl, hslO, hwl, gg⟩
     try simp only [zS] at gf
     refine zAn (zAc (g9 _ _ (zAf (fun jh gR => (zAb (w_p (zA2 (vs := [_,_,_,_,_]) isAgg56 sizeOf56 g6 rfl rfl (aow 0 [_,_,_,_,_])) rfl (zA6 rfl rfl ?_)))))))
     refine zA4 zAa call76 rfl rfl rfl rfl (c76 f p s g6) ?_
     rintro _ ji ⟨cb, mm, rfl, gS⟩
     refine zCo zAa call77 rfl rfl rfl rfl (c77 f p s cb mm (zEs (FIn.cons (FIn.cons (FIn.app (FIn.app hm)))) hf (by omega)) gS) (fun jj gv => ?_)
     refine zAd (zAc (gR _ _ (zAr rfl rfl (fun gh => ?_) (fun gh => ?_))))
     ·
      try simp only [zS] at gh
      refine zAb (w_p (zAx rfl rfl) rfl (w_p (zBz rfl rfl) rfl (zBi rfl rfl (zAd (zAi (zAc (g3 _ _ (zAb (w_p (zBo rfl rfl rfl rfl (by omega) (by omega)) rfl ?_)))))))))
      refine zA6 rfl rfl (zAd (zAc (g0 _ _ (nxI (K - (s + 1)) (by omega) ?_))))
      have gw := (show St _ _ (_ :: (B ++ ((OB ++ (F))))) from gv.tail.tail)
      have gT := (show St _ _ (_ :: (B ++ (F))) from St.pk [[_], B, OB] [0,1] gw)
      have gi := (show St _ _ (_ :: (OB ++ (F))) from St.pk [[_], B, OB] [0,2] gw)
      first
        | exact ⟨s + 1, wl, true, aW, cW, OB, rfl, wr_1 hw (by omega), by omega, rfl, hslO, hwl, gi⟩
        | exact ⟨s + 1, wl, true, aW, cW, OB, rfl, wr_2 hw (by omega) (by rw [← hz]; exact decide_eq_true (by omega)), by omega, rfl, hslO, hwl, gi⟩
        | exact ⟨s + 1, _, true, aB, cB, B, rfl, wr_y hw (by first | rfl | (rw [decide_eq_false (show ¬ wl.length < (listL s f.paps.length).length by omega), decide_eq_false (show ¬ (listL s f.paps.length).length = wl.length by omega)]; rfl) | (rw [decide_eq_false (show ¬ wl.length < (listL s f.paps.length).length by omega), ← hz, decide_eq_false (show ¬ 0 < z by omega), Bool.and_false]; rfl)) (by assumption), by omega, rfl, hslB, by omega, gT⟩
        | exact ⟨s + 1, wl, _, aW, cW, OB, rfl, wr_n hw (by first | rfl | (rw [decide_eq_false (show ¬ wl.length < (listL s f.paps.length).length by omega), decide_eq_false (show ¬ (listL s f.paps.length).length = wl.length by omega)]; rfl) | (rw [decide_eq_false (show ¬ wl.length < (listL s f.paps.length).length by omega), ← hz, decide_eq_false (show ¬ 0 < z by omega), Bool.and_false]; rfl)) (by assumption), by omega, rfl, hslO, hwl, gi⟩
     try simp only [zS] at gh
     refine zAn (zAi (zAc (g3 _ _ (zAb (w_p (zBo rfl rfl rfl rfl (by omega) (by omega)) rfl (zA6 rfl rfl (zAd (zAc (g0 _ _ (nxI (K - (s + 1)) (by omega) ?_))))))))))
     have gx := (show St _ _ (_ :: (B ++ ((OB ++ (F))))) from gv.tail.tail)
     have gU := (show St _ _ (_ :: (B ++ (F))) from St.pk [[_], B, OB] [0,1] gx)
     have gj := (show St _ _ (_ :: (OB ++ (F))) from St.pk [[_], B, OB] [0,2] gx)
     first
       | exact ⟨s + 1, wl, true, aW, cW, OB, rfl, wr_1 hw (by omega), by omega, rfl, hslO, hwl, gj⟩
       | exact ⟨s + 1, wl, true, aW, cW, OB, rfl, wr_2 hw (by omega) (by rw [← hz]; exact decide_eq_true (by omega)), by omega, rfl, hslO, hwl, gj⟩
       | exact ⟨s + 1, _, true, aB, cB, B, rfl, wr_y hw (by first | rfl | (rw [decide_eq_false (show ¬ wl.length < (listL s f.paps.length).length by omega), decide_eq_false (show ¬ (listL s f.paps.length).length = wl.length by omega)]; rfl) | (rw [decide_eq_false (show ¬ wl.length < (listL s f.paps.length).length by omega), ← hz, decide_eq_false (show ¬ 0 < z by omega), Bool.and_false]; rfl)) (by assumption), by omega, rfl, hslB, by omega, gU⟩
       | exact ⟨s + 1, wl, _, aW, cW, OB, rfl, wr_n hw (by first | rfl | (rw [decide_eq_false (show ¬ wl.length < (listL s f.paps.length).length by omega), decide_eq_false (show ¬ (listL s f.paps.length).length = wl.length by omega)]; rfl) | (rw [decide_eq_false (show ¬ wl.length < (listL s f.paps.length).length by omega), ← hz, decide_eq_false (show ¬ 0 < z by omega), Bool.and_false]; rfl)) (by assumption), by omega, rfl, hslO, hwl, gj⟩
    try simp only [zS] at ge
    refine zAm rfl rfl rfl ?_
    refine zAm rfl rfl rfl ?_
    refine zAm rfl rfl rfl ?_
    refine zAm rfl rfl rfl ?_
    refine w_y rfl rfl rfl (zBg (v := _) rfl rfl rfl rfl) rfl ?_
    refine w_y rfl rfl rfl (zBg (v := .bool _) rfl rfl rfl rfl) rfl ?_
    refine w_p (zA5 (v := .bool _) rfl rfl rfl rfl) rfl (zAd (zAc (g5 _ _ (zBs rfl rfl ?_))))
    refine zAn (zAc (g9 _ _ (zAf (fun jk gV => (zAb (w_p (zA2 (vs := [_,_,_,_,_]) isAgg56 sizeOf56 g4 rfl rfl (aow 0 [_,_,_,_,_])) rfl (zA6 rfl rfl ?_)))))))
    refine zA4 zAa call76 rfl rfl rfl rfl (c76 f p s g4) ?_
    rintro _ jl ⟨cb, mm, rfl, gW⟩
    refine zCo zAa call77 rfl rfl rfl rfl (c77 f p s cb mm (zEs (FIn.cons (FIn.cons (FIn.app (FIn.app hm)))) hf (by omega)) gW) (fun jm gy => ?_)
    refine zAd (zAc (gV _ _ (zAr rfl rfl (fun gk => ?_) (fun gk => ?_))))
    ·
     try simp only [zS] at gk
     refine zAb (w_p (zAx rfl rfl) rfl (w_p (zBz rfl rfl) rfl (zBi rfl rfl (zAd (zAi (zAc (g3 _ _ (zAb (w_p (zBo rfl rfl rfl rfl (by omega) (by omega)) rfl ?_)))))))))
     refine zA6 rfl rfl (zAd (zAc (g0 _ _ (nxI (K - (s + 1)) (by omega) ?_))))
     have gz := (show St _ _ (_ :: (B ++ ((OB ++ (F))))) from gy.tail.tail)
     have gX := (show St _ _ (_ :: (B ++ (F))) from St.pk [[_], B, OB] [0,1] gz)
     have gm := (show St _ _ (_ :: (OB ++ (F))) from St.pk [[_], B, OB] [0,2] gz)
     first
       | exact ⟨s + 1, wl, true, aW, cW, OB, rfl, wr_1 hw (by omega), by omega, rfl, hslO, hwl, gm⟩
       | exact ⟨s + 1, wl, true, aW, cW, OB, rfl, wr_2 hw (by omega) (by rw [← hz]; exact decide_eq_true (by omega)), by omega, rfl, hslO, hwl, gm⟩
       | exact ⟨s + 1, _, true, aB, cB, B, rfl, wr_y hw (by first | rfl | (rw [decide_eq_false (show ¬ wl.length < (listL s f.paps.length).length by omega), decide_eq_false (show ¬ (listL s f.paps.length).length = wl.length by omega)]; rfl) | (rw [decide_eq_false (show ¬ wl.length < (listL s f.paps.length).length by omega), ← hz, decide_eq_false (show ¬ 0 < z by omega), Bool.and_false]; rfl)) (by assumption), by omega, rfl, hslB, by omega, gX⟩
       | exact ⟨s + 1, wl, _, aW, cW, OB, rfl, wr_n hw (by first | rfl | (rw [decide_eq_false (show ¬ wl.length < (listL s f.paps.length).length by omega), decide_eq_false (show ¬ (listL s f.paps.length).length = wl.length by omega)]; rfl) | (rw [decide_eq_false (show ¬ wl.length < (listL s f.paps.length).length by omega), ← hz, decide_eq_false (show ¬ 0 < z by omega), Bool.and_false]; rfl)) (by assumption), by omega, rfl, hslO, hwl, gm⟩
    try simp only [zS] at gk
    refine zAn (zAi (zAc (g3 _ _ (zAb (w_p (zBo rfl rfl rfl rfl (by omega) (by omega)) rfl (zA6 rfl rfl (zAd (zAc (g0 _ _ (nxI (K - (s + 1)) (by omega) ?_))))))))))
    have gA := (show St _ _ (_ :: (B ++ ((OB ++ (F))))) from gy.tail.tail)
    have gY := (show St _ _ (_ :: (B ++ (F))) from St.pk [[_], B, OB] [0,1] gA)
    have gn := (show St _ _ (_ :: (OB ++ (F))) from St.pk [[_], B, OB] [0,2] gA)
    first
      | exact ⟨s + 1, wl, true, aW, cW, OB, rfl, wr_1 hw (by omega), by omega, rfl, hslO, hwl, gn⟩
      | exact ⟨s + 1, wl, true, aW, cW, OB, rfl, wr_2 hw (by omega) (by rw [← hz]; exact decide_eq_true (by omega)), by omega, rfl, hslO, hwl, gn⟩
      | exact ⟨s + 1, _, true, aB, cB, B, rfl, wr_y hw (by first | rfl | (rw [decide_eq_false (show ¬ wl.length < (listL s f.paps.length).length by omega), decide_eq_false (show ¬ (listL s f.paps.length).length = wl.length by omega)]; rfl) | (rw [decide_eq_false (show ¬ wl.length < (listL s f.paps.length).length by omega), ← hz, decide_eq_false (show ¬ 0 < z by omega), Bool.and_false]; rfl)) (by assumption), by omega, rfl, hslB, by omega, gY⟩
      | exact ⟨s + 1, wl, _, aW, cW, OB, rfl, wr_n hw (by first | rfl | (rw [decide_eq_false (show ¬ wl.length < (listL s f.paps.length).length by omega), decide_eq_false (show ¬ (listL s f.paps.length).length = wl.length by omega)]; rfl) | (rw [decide_eq_false (show ¬ wl.length < (listL s f.paps.length).length by omega), ← hz, decide_eq_false (show ¬ 0 < z by omega), Bool.and_false]; rfl)) (by assumption), by omega, rfl, hslO, hwl, gn⟩
   subst ga
   refine zAm rfl rfl rfl ?_
   refine zAm rfl rfl rfl ?_
   refine zAm rfl rfl rfl ?_
   refine zAm rfl rfl rfl ?_
   refine zAm rfl rfl rfl ?_
   refine zAm rfl rfl rfl ?_
   refine zBd rfl rfl rfl ?_
   refine zBd rfl rfl rfl ?_
   refine zBd rfl rfl rfl ?_
   refine zBd rfl rfl rfl ?_
   refine zBd rfl rfl rfl ?_
   refine zBd rfl rfl rfl ?_
   refine zBd rfl rfl rfl ?_
   refine zBd rfl rfl rfl ?_
   refine zBd rfl rfl rfl ?_
   refine zBd rfl rfl rfl ?_
   refine zBd rfl rfl rfl ?_
   refine zAm rfl rfl rfl ?_
   refine w_p (zBg (v := _) rfl rfl rfl rfl) rfl (zAd (zAc (g5 _ _ (zBs rfl rfl ?_))))
   refine zAn (zAc (g9 _ _ (zAf (fun jo gZ => (zAb (w_p (zA2 (vs := [_,_,_,_,_]) isAgg56 sizeOf56 g4 rfl rfl (aow 0 [_,_,_,_,_])) rfl (zA6 rfl rfl ?_)))))))
   refine zA4 zAa call76 rfl rfl rfl rfl (c76 f p s g4) ?_
   rintro _ jp ⟨cb, mm, rfl, hD⟩
   refine zCo zAa call77 rfl rfl rfl rfl (c77 f p s cb mm (zEs (FIn.cons (FIn.cons (FIn.app (FIn.app hm)))) hf (by omega)) hD) (fun jq gB => ?_)
   refine zAd (zAc (gZ _ _ (zAr rfl rfl (fun go => ?_) (fun go => ?_))))
   ·
    try simp only [zS] at go
    refine zAb (w_p (zAx rfl rfl) rfl (w_p (zBz rfl rfl) rfl (zBi rfl rfl (zAd (zAi (zAc (g3 _ _ (zAb (w_p (zBo rfl rfl rfl rfl (by omega) (by omega)) rfl ?_)))))))))
    refine zA6 rfl rfl (zAd (zAc (g0 _ _ (nxI (K - (s + 1)) (by omega) ?_))))
    have gC := (show St _ _ (_ :: (B ++ ((OB ++ (F))))) from gB.tail.tail)
    have hN := (show St _ _ (_ :: (B ++ (F))) from St.pk [[_], B, OB] [0,1] gC)
    have gp := (show St _ _ (_ :: (OB ++ (F))) from St.pk [[_], B, OB] [0,2] gC)
    first
      | exact ⟨s + 1, wl, true, aW, cW, OB, rfl, wr_1 hw (by omega), by omega, rfl, hslO, hwl, gp⟩
      | exact ⟨s + 1, wl, true, aW, cW, OB, rfl, wr_2 hw (by omega) (by rw [← hz]; exact decide_eq_true (by omega)), by omega, rfl, hslO, hwl, gp⟩
      | exact ⟨s + 1, _, true, aB, cB, B, rfl, wr_y hw (by first | rfl | (rw [decide_eq_false (show ¬ wl.length < (listL s f.paps.length).length by omega), decide_eq_false (show ¬ (listL s f.paps.length).length = wl.length by omega)]; rfl) | (rw [decide_eq_false (show ¬ wl.length < (listL s f.paps.length).length by omega), ← hz, decide_eq_false (show ¬ 0 < z by omega), Bool.and_false]; rfl)) (by assumption), by omega, rfl, hslB, by omega, hN⟩
      | exact ⟨s + 1, wl, _, aW, cW, OB, rfl, wr_n hw (by first | rfl | (rw [decide_eq_false (show ¬ wl.length < (listL s f.paps.length).length by omega), decide_eq_false (show ¬ (listL s f.paps.length).length = wl.length by omega)]; rfl) | (rw [decide_eq_false (show ¬ wl.length < (listL s f.paps.length).length by omega), ← hz, decide_eq_false (show ¬ 0 < z by omega), Bool.and_false]; rfl)) (by assumption), by omega, rfl, hslO, hwl, gp⟩
   try simp only [zS] at go
   refine zAn (zAi (zAc (g3 _ _ (zAb (w_p (zBo rfl rfl rfl rfl (by omega) (by omega)) rfl (zA6 rfl rfl (zAd (zAc (g0 _ _ (nxI (K - (s + 1)) (by omega) ?_))))))))))
   have gD := (show St _ _ (_ :: (B ++ ((OB ++ (F))))) from gB.tail.tail)
   have hP := (show St _ _ (_ :: (B ++ (F))) from St.pk [[_], B, OB] [0,1] gD)
   have gq := (show St _ _ (_ :: (OB ++ (F))) from St.pk [[_], B, OB] [0,2] gD)
   first
     | exact ⟨s + 1, wl, true, aW, cW, OB, rfl, wr_1 hw (by omega), by omega, rfl, hslO, hwl, gq⟩
     | exact ⟨s + 1, wl, true, aW, cW, OB, rfl, wr_2 hw (by omega) (by rw [← hz]; exact decide_eq_true (by omega)), by omega, rfl, hslO, hwl, gq⟩
     | exact ⟨s + 1, _, true, aB, cB, B, rfl, wr_y hw (by first | rfl | (rw [decide_eq_false (show ¬ wl.length < (listL s f.paps.length).length by omega), decide_eq_false (show ¬ (listL s f.paps.length).length = wl.length by omega)]; rfl) | (rw [decide_eq_false (show ¬ wl.length < (listL s f.paps.length).length by omega), ← hz, decide_eq_false (show ¬ 0 < z by omega), Bool.and_false]; rfl)) (by assumption), by omega, rfl, hslB, by omega, hP⟩
     | exact ⟨s + 1, wl, _, aW, cW, OB, rfl, wr_n hw (by first | rfl | (rw [decide_eq_false (show ¬ wl.length < (listL s f.paps.length).length by omega), decide_eq_false (show ¬ (listL s f.paps.length).length = wl.length by omega)]; rfl) | (rw [decide_eq_false (show ¬ wl.length < (listL s f.paps.length).length by omega), ← hz, decide_eq_false (show ¬ 0 < z by omega), Bool.and_false]; rfl)) (by assumption), by omega, rfl, hslO, hwl, gq⟩
  try simp only [zS] at g7
  refine zBt (zAj (zAj (zAv (zAc (gJ _ _ (zAf (fun jr hX => (zAb (w_p (zAx rfl rfl) rfl (w_p (zBz rfl rfl) rfl ?_))))))))))
  refine zBi rfl rfl (zAd (zAc (hX _ _ (zA8 (zBa (l := [.tmp 2, .tmp 3]) (vs := [_,_]) rfl ⟨⟨rfl, show _ = (.slice _ _ _ : Value) from rfl⟩, ⟨rfl, (rfl : _ = Value.int _ _)⟩, trivial⟩ ?_)))))
  have hY := (show St _ _ ((OB ++ (F))) from hs.tail)
  have hse : s = 1 <<< f.paps.length := by rw [hKn]; omega
  exact ⟨OB, aW, cW, by rw [wrong_at hse hw]; rfl, by rw [wrong_at hse hw]; exact hslO, hY⟩

end Go.Proofs.Uc
set_option maxRecDepth 20000
namespace Go.Proofs.Uc
open Go.Proofs.Tryz
open Go.Rt Go.Rt.Cm
open Go.Rt.Ha (felt spanL upto zBv listL bit Bunch zB8 zCi zBx zB2 zCg zCf zBu)
attribute [local irreducible] WL WC Con Yd At Ats Sl Agree DW
theorem Try_LO_fb3 (x0 : Int) (w : World) : (Instr.buildSlice 22 1 [(0, .int .i64 x0)].toArray).run Tryz.prog w = .ok (.slice (some ⟨w.heap.size, 0, none⟩) 1 1) (w.alloc (Go.Rt.blk 3 [.int .i64 x0])) := by kernel_rfl
theorem st_in {w0 w : World} {P X B R : List (Nat × Obj)} (h : St w0 w (P ++ (X ++ (B ++ R)))) : St w0 w ((P ++ (X ++ B)) ++ R) := by simpa only [List.append_assoc] using h
theorem st_out {w0 w : World} {P X B R : List (Nat × Obj)} (h : St w0 w ((P ++ (X ++ B)) ++ R)) : St w0 w (P ++ (X ++ (B ++ R))) := by simpa only [List.append_assoc] using h
theorem op_perm (a b : Nat × Obj) (OB M R : List (Nat × Obj)) : (a :: b :: (OB ++ (M ++ R))).Perm ((b :: (OB ++ M)) ++ (a :: R)) := by
  have h := zBp [a] (b :: (OB ++ M)) R
  simpa only [List.append_assoc, List.cons_append, List.nil_append] using h
theorem zFi {v : Value} {l : List Int} {z : Int} {B : List (Nat × Obj)} (h : Rt.Own v 3 1 (l.length + 1) (iv l ++ [[Value.int .i64 z]].flatten) B) : Rt.Own v 3 1 (l ++ [z]).length (iv (l ++ [z])) B := by simpa [iv] using h
theorem zGq {α : Type} {p : α → Bool} {l : List α} {j : Nat} (hj : j < l.length) (h : (l.take j).all p = true) (h2 : p l[j] = true) : (l.take (j + 1)).all p = true := by
  rw [List.take_succ_eq_append_getElem hj, List.all_append, h]; simp [h2]
theorem all_not {α : Type} {p : α → Bool} {l : List α} {j : Nat} (hj : j < l.length) (h2 : p l[j] = false) : l.all p = false := by
  rw [List.all_eq_false]; exact ⟨l[j], List.getElem_mem hj, by simp [h2]⟩
theorem open_yes {f : File} {i : Nat} (h : (truths f 0).all (fun p => paysLot f p i) = true) : openTo f (i + 1) = openTo f i := by rw [openTo, if_pos h]
theorem open_no {f : File} {i : Nat} (h : (truths f 0).all (fun p => paysLot f p i) = false) : openTo f (i + 1) = openTo f i ++ [(i : Int)] := by rw [openTo, if_neg (by rw [h]; simp)]
theorem open_len (f : File) : ∀ i, (openTo f i).length ≤ i
  | 0 => by simp [openTo]
  | i + 1 => by have := open_len f i; rw [openTo]; split <;> simp <;> omega
theorem c35 {w0 w : World} {F : List (Nat × Obj)} (f : File) (p : AtF) (hm : FIn w0 F f p) (hf : f.Ok) (hsm : truths f 0 ≠ [])  (hs : St w0 w F) :
  Con Tryz.prog 35 [.agg (f.cells p).toArray] w fun v w' => ∃ B a c, v = .tuple #[.slice a (openTo f f.lots.length).length c, .int .i64 0] ∧ Sl w0 B a 1 ((openTo f f.lots.length).map fun x => [Value.int .i64 x]) ∧ St w0 w' (B ++ F) := by
  refine zEa (n := 35) func35 rfl rfl (zNl rfl) ?_
  have hll := hf.ll
  refine zAf (fun K2 gk => (zAb (zCj (v := .agg #[.slice _ _ _, .slice _ _ _, .slice _ _ _, .slice _ _ _, .slice _ _ _]) (cs := [_,_,_,_,_]) zAa rfl rfl rfl hs (fun b3 w4 gm => ?_))))
  refine zA1 (cs := [_]) zAa zeroValue22 rfl gm (fun b6 w7 ga => ?_)
  refine zBi rfl rfl (zAd (zAc (gk _ _ (w_scope ?_))))
  refine zAf (fun gU gn => (zAb (w_p (zA2 (vs := [_,_,_,_,_]) isAgg56 sizeOf56 ga rfl rfl (aow 1 [_,_,_,_,_])) rfl ?_)))
  refine zA4 zAa call66 rfl rfl rfl rfl (c66y f p hm.cons.cons hf 0 1 (by omega) (by omega) hsm ga) ?_
  rintro _ gV ⟨cb, mm, rfl, go⟩
  have gp := (show St _ _ (_ :: _ :: _ :: _ :: F) from St.pk [[_], [_], [_], [_]] [1,0,2,3] go)
  refine w_p (zA3 rfl rfl) rfl (w_p (zAw rfl rfl rfl) rfl (w_p (zAk rfl rfl rfl) rfl (zA1 (cs := [_]) zAa zeroValue114 rfl gp (fun g0 gW gq => ?_))))
  refine zBj 0 (.pointer _) [_] sizeOf114 gq (fun gX gc => ?_)
  refine zBw rfl rfl (zAd (zAc (gn _ _ (zAf (fun gY gt => (zAf (fun gZ gu => (zAb (zA6 rfl rfl (w_p (zCs rfl rfl rfl rfl) rfl (zAd (zAc (gu _ _ (zBs rfl rfl ?_))))))))))))))
  refine zAn (zAc (gt _ _ (zAf (fun hD gv => (w_label ?_)))))
  refine zAc (gv _ _ (zAf (fun hN gw => (zAf (fun hP gx => (zAb (w_p (zAe (o := 2) (i := 2) underlying56 rfl sizeOf52 rfl rfl rfl) rfl (w_p (zAg isAgg52 gc rfl rfl (aow 4 [_])) rfl ?_))))))))
  refine w_p (zBc underlying52 rfl rfl) rfl (w_p (zBy (v := _) rfl rfl) rfl (zAd (zAc (gx _ _ (zAq ?_)))))
  have gy := (show St _ _ (_ :: _ :: _ :: _ :: _ :: F) from St.pk [[_], [_], [_], [_], [_]] [3,0,2,4,1] gc)
  refine w_loopD [5,18,19,20,21,22,33] [18] (fun kk vs bs w => ∃ (i0 : Nat) (v : Value) (OB M : List (Nat × Obj)), vs = [.int .i64 (i0 : Int)] ∧ i0 ≤ f.lots.length ∧ kk = f.lots.length - i0 ∧ Rt.Own v 3 1 (openTo f i0).length (iv (openTo f i0)) OB ∧ Memo f mm M ∧ St w0 w ((b6, blk 22 [v]) :: (g0, blk 114 [.pointer (some ⟨cb, 0, none⟩)]) :: (cb, blk 151 [.slice p.ap f.parties.length p.cp, .slice p.au f.until_.length p.cu, .slice p.al f.lots.length p.cl, .slice p.aq f.paps.length p.cq, .slice p.ac f.clms.length p.cc, .int .i64 ((0 : Nat) : Int), .map (some mm)]) :: (b3, blk 56 (f.cells p)) :: (dfs bs ++ (OB ++ (M ++ F))))) (f.lots.length) [] ?_ ?_
  ·
   exact ⟨0, _, [], [_], rfl, by omega, by omega, zEm 3 1, zE1 f mm, gy⟩
  intro k vs μ bs hX hI hY gd
  clear hs
  obtain ⟨i0, v, OB, M, rfl, hia, rfl, hown, hM, hs⟩ := hI
  refine zAf (fun j0 gz => (zAb (w_p (zCp rfl rfl rfl rfl) rfl (zAd (zAc (gz _ _ (zAf (fun j1 gA => (zAr rfl rfl (fun g7 => ?_) (fun g7 => ?_))))))))))
  ·
   try simp only [zS] at g7
   refine zAn (zAc (gA _ _ (zAf (fun j3 ge => (zAq ?_)))))
   refine zAf (fun j4 gB => (zAb (zA6 rfl rfl (zA1 (cs := [_]) zAa zeroValue3 rfl hs (fun g3 j5 gC => ?_)))))
   refine zBj 0 (.int _ _) [_] sizeOf3 gC (fun j6 gf => ?_)
   refine zAd (zAc (gB _ _ (zAf (fun j7 gD => (zAb (w_p (zAg isAgg114 gf rfl rfl (aow 2 [_])) rfl ?_))))))
   refine zA4 zAa call67 rfl rfl rfl rfl (c67 _ gf) ?_
   rintro _ j8 ⟨bp, rfl, gE⟩
   refine zAd (zAc (gD _ _ (zAq ?_)))
   have gF := (show St _ _ (_ :: _ :: (OB ++ ((M ++ (_ :: _ :: _ :: _ :: ((dfs bs) ++ (F))))))) from St.pk [[_], [_], [_], [_], [_], [_], (dfs bs), OB, M] [0,2,7,8,1,3,4,5,6] gE)
   refine zG0 (_ :: (OB ++ M)) (fun i Bx => ∃ M, Bx = (b6, blk 22 [v]) :: (OB ++ M) ∧ Memo f mm M ∧ ((truths f 0).take i).all (fun p => paysLot f p i0) = true) (fun cd Bx => cd = .exit 1 ∧ ∃ (v2 : Value) (OB2 M : List (Nat × Obj)), Bx = (b6, blk 22 [v2]) :: (OB2 ++ M) ∧ Rt.Own v2 3 1 (openTo f i0 ++ [(i0 : Int)]).length (iv (openTo f i0 ++ [(i0 : Int)])) OB2 ∧ Memo f mm M ∧ (truths f 0).all (fun p => paysLot f p i0) = false) rfl rfl rfl call88 (zDv f p 0 cb mm (CK.cons (CK.cons (CK.cons (zEs (but := 0) (cb := cb) (mm := mm) (FIn.cons (FIn.app hm)) hf (by omega))))) bp (aow 0 [_])) gF (op_perm _ _ OB M _) ⟨M, rfl, hM, rfl⟩ ?_ ?_ ?_
   ·
    intro lp i hi Bx Xr Xr2 j9 hJ hs K gG
    obtain ⟨M3, rfl, g6, hall⟩ := hJ
    have hi2 : i < (truths f 0).length := by simpa using hi
    rw [List.getElem_map]
    obtain ⟨x, hxe⟩ : ∃ x, x = (truths f 0)[i] := ⟨_, rfl⟩
    have hx := zFu hf (List.getElem_mem hi2)
    rw [← hxe] at hx ⊢
    have hx4 := hx.1
    have hol := open_len f i0
    have hk : CK w0 ((bp, blk 114 [.pointer (some ⟨cb, 0, none⟩)]) :: (g3, blk 3 [.int .i64 (i0 : Int)]) :: (g0, blk 114 [.pointer (some ⟨cb, 0, none⟩)]) :: (cb, blk 151 [.slice p.ap f.parties.length p.cp, .slice p.au f.until_.length p.cu, .slice p.al f.lots.length p.cl, .slice p.aq f.paps.length p.cq, .slice p.ac f.clms.length p.cc, .int .i64 ((0 : Nat) : Int), .map (some mm)]) :: (b3, blk 56 (f.cells p)) :: (dfs bs ++ F)) f p 0 cb mm := (CK.cons (CK.cons (CK.cons (zEs (but := 0) (cb := cb) (mm := mm) (FIn.cons (FIn.app hm)) hf (by omega)))))
    have hxA : Ats w0 ((bp, blk 114 [.pointer (some ⟨cb, 0, none⟩)]) :: (g3, blk 3 [.int .i64 (i0 : Int)]) :: (g0, blk 114 [.pointer (some ⟨cb, 0, none⟩)]) :: (cb, blk 151 [.slice p.ap f.parties.length p.cp, .slice p.au f.until_.length p.cu, .slice p.al f.lots.length p.cl, .slice p.aq f.paps.length p.cq, .slice p.ac f.clms.length p.cc, .int .i64 ((0 : Nat) : Int), .map (some mm)]) :: (b3, blk 56 (f.cells p)) :: (dfs bs ++ F)) g0 0 [.pointer (some ⟨cb, 0, none⟩)] := zB9 (i := 2) rfl rfl
    have hx5 : Ats w0 ((bp, blk 114 [.pointer (some ⟨cb, 0, none⟩)]) :: (g3, blk 3 [.int .i64 (i0 : Int)]) :: (g0, blk 114 [.pointer (some ⟨cb, 0, none⟩)]) :: (cb, blk 151 [.slice p.ap f.parties.length p.cp, .slice p.au f.until_.length p.cu, .slice p.al f.lots.length p.cl, .slice p.aq f.paps.length p.cq, .slice p.ac f.clms.length p.cc, .int .i64 ((0 : Nat) : Int), .map (some mm)]) :: (b3, blk 56 (f.cells p)) :: (dfs bs ++ F)) g3 0 [.int .i64 (i0 : Int)] := zB9 (i := 1) rfl rfl
    rw [List.cons_append, List.append_assoc] at hs
    replace hs := (show St _ _ (_ :: (OB ++ (M3 ++ (Xr ++ ((bp, blk 114 [.pointer (some ⟨cb, 0, none⟩)]) :: (g3, blk 3 [.int .i64 (i0 : Int)]) :: (g0, blk 114 [.pointer (some ⟨cb, 0, none⟩)]) :: (cb, blk 151 [.slice p.ap f.parties.length p.cp, .slice p.au f.until_.length p.cu, .slice p.al f.lots.length p.cl, .slice p.aq f.paps.length p.cq, .slice p.ac f.clms.length p.cc, .int .i64 ((0 : Nat) : Int), .map (some mm)]) :: (b3, blk 56 (f.cells p)) :: (dfs bs ++ F)))))) from hs)
    refine zAb (zA1 (cs := iv [0,0,0,0]) zAa zeroValue121 rfl hs (fun ja jb gH => ?_))
    refine zDg (i := 0) (l := _) zAa sizeOf121 (by first | omega | rfl | (simp only [hx4, zL] <;> omega)) rfl rfl rfl rfl rfl gH rfl (by first | omega | rfl | (simp only [hx4, zL] <;> omega)) (fun jc gI => ?_)
    refine zAd (zAc (gG _ _ ([_,_] ++ (OB ++ M3)) (st_in gI) (fun jd g4 => ?_)))
    replace g4 := st_out g4
    replace g4 := (show St _ _ (_ :: _ :: OB ++ (M3 ++ (Xr2 ++ (_ :: _ :: _ :: _ :: _ :: (dfs bs) ++ (F))))) from g4)
    refine zAq ?_
    refine zAf (fun je gJ => (zAb (w_p (zAg isAgg114 g4.tail.tail.drop.drop.drop rfl rfl hxA) rfl (w_p (zCt (i := 0) isAgg121 sizeOf121 (by first | omega | rfl | (simp only [hx4, zL] <;> omega)) g4 rfl rfl rfl) rfl ?_))))
    refine w_p (zAg isAgg3 g4.tail.tail.drop.drop.drop rfl rfl hx5) rfl (zA4 zAa call72 rfl rfl rfl rfl (c72 (X := _ :: _ :: OB) (M := M3) (F := Xr2 ++ ((bp, blk 114 [.pointer (some ⟨cb, 0, none⟩)]) :: (g3, blk 3 [.int .i64 (i0 : Int)]) :: (g0, blk 114 [.pointer (some ⟨cb, 0, none⟩)]) :: (cb, blk 151 [.slice p.ap f.parties.length p.cp, .slice p.au f.until_.length p.cu, .slice p.al f.lots.length p.cl, .slice p.aq f.paps.length p.cq, .slice p.ac f.clms.length p.cc, .int .i64 ((0 : Nat) : Int), .map (some mm)]) :: (b3, blk 56 (f.cells p)) :: (dfs bs ++ F))) f p 0 cb mm hk.app x hx i0 g6 g4) ?_)
    rintro _ jf ⟨rfl, M4, gg, g5⟩
    replace g5 := (show St _ _ (_ :: _ :: OB ++ (M4 ++ (Xr2 ++ (_ :: _ :: _ :: _ :: _ :: (dfs bs) ++ (F))))) from g5)
    refine w_p (zDo rfl rfl) rfl (zAd (zAc (gJ _ _ (zAr rfl rfl (fun g8 => ?_) (fun g8 => ?_)))))
    ·
     try simp only [zS] at g8
     refine zAf (fun jg gK => (zAb (w_p (zAg isAgg22 g5 rfl rfl (aow 1 [_])) rfl (w_p (zAg isAgg3 g5.tail.tail.drop.drop.drop rfl rfl hx5) rfl ?_))))
     refine zAu (ps := [(0, _)]) (pv := [(0, .int _ _)]) (cs := [_]) zAa rfl rfl (fun w => Try_LO_fb3 _ w) g5 (fun jh ji gL => ?_)
     refine zC7 (X := (_ :: _ :: _ :: [])) (B := OB) (rows := [[_]]) (sz := 1) (bytes := 8) zAa underlying22 zC3 rfl rfl rfl rfl rfl rfl rfl rfl rfl gL hown (zBb (i := 0) rfl (by simp) rfl) rfl (by simp) (by simp [Value.oneCell']) (by simp only [maxLen]; omega) (by omega) (fun jj jk gh gi g9 => ?_)
     replace g9 := (show St _ _ (_ :: _ :: _ :: gh ++ (M4 ++ (Xr2 ++ (_ :: _ :: _ :: _ :: _ :: (dfs bs) ++ (F))))) from g9)
     obtain ⟨a3, c3, rfl⟩ := Rt.Own.slice gi
     refine zBj 2 (.slice _ _ _) [_] sizeOf22 g9 (fun jl gM => ?_)
     refine zAd (zAc (gK _ _ (zBt (zDw rfl ?_))))
     refine rd_exit ([_] ++ (gh ++ M4)) (st_in gM.tail.tail) ?_
     exact ⟨rfl, _,_, M4, rfl, zFi gi, gg, all_not hi2 (by rw [← hxe]; assumption)⟩
    try simp only [zS] at g8
    refine zAn (zAi (zD2 ([_] ++ (OB ++ M4)) (st_in g5.tail) ?_))
    exact ⟨M4, rfl, gg, zGq hi2 hall (by rw [← hxe]; assumption)⟩
   ·
    intro bd Bx jm hJ hs
    obtain ⟨M3, rfl, g6, hall⟩ := hJ
    rw [List.length_map, List.take_of_length_le (Nat.le_refl _)] at hall
    rw [List.cons_append, List.append_assoc] at hs
    replace hs := (show St _ _ (_ :: _ :: (OB ++ (M3 ++ ((bp, blk 114 [.pointer (some ⟨cb, 0, none⟩)]) :: (g3, blk 3 [.int .i64 (i0 : Int)]) :: (g0, blk 114 [.pointer (some ⟨cb, 0, none⟩)]) :: (cb, blk 151 [.slice p.ap f.parties.length p.cp, .slice p.au f.until_.length p.cu, .slice p.al f.lots.length p.cl, .slice p.aq f.paps.length p.cq, .slice p.ac f.clms.length p.cc, .int .i64 ((0 : Nat) : Int), .map (some mm)]) :: (b3, blk 56 (f.cells p)) :: (dfs bs ++ F))))) from hs)
    refine zAi (zAi (zAc (ge _ _ (zAb ?_))))
    have gN := (show St _ _ (_ :: _ :: _ :: _ :: _ :: ((dfs bs) ++ ((OB ++ ((M3 ++ (F))))))) from St.pk [[_], [_], OB, M3, [_], [_], [_], [_], [_], (dfs bs)] [1,6,7,8,0,9,2,3] hs)
    have gO := (show St _ _ (_ :: _ :: _ :: _ :: (dfs (bd :: bs) ++ (OB ++ (M3 ++ F)))) from gN)
    refine w_p (zBo rfl rfl rfl rfl (by omega) (by omega)) rfl (zA6 rfl rfl (zAd (zAc (gd _ _ (NxD.intro (bd :: bs) (f.lots.length - (i0 + 1)) (by omega) (by repeat (first | exact zD6 | refine zD5 rfl ?_ | refine zDz rfl ?_ _ | refine agree_mixin rfl ?_)) ?_)))))
    exact ⟨i0 + 1, v, OB, M3, rfl, by omega, rfl, by rw [open_yes hall]; exact hown, g6, gO⟩
   intro bd c Bx jo hJ hs
   obtain ⟨rfl, v2, OB2, M3, rfl, hown2, g6, hall⟩ := hJ
   rw [List.cons_append, List.append_assoc] at hs
   replace hs := (show St _ _ (_ :: _ :: (OB2 ++ (M3 ++ ((bp, blk 114 [.pointer (some ⟨cb, 0, none⟩)]) :: (g3, blk 3 [.int .i64 (i0 : Int)]) :: (g0, blk 114 [.pointer (some ⟨cb, 0, none⟩)]) :: (cb, blk 151 [.slice p.ap f.parties.length p.cp, .slice p.au f.until_.length p.cu, .slice p.al f.lots.length p.cl, .slice p.aq f.paps.length p.cq, .slice p.ac f.clms.length p.cc, .int .i64 ((0 : Nat) : Int), .map (some mm)]) :: (b3, blk 56 (f.cells p)) :: (dfs bs ++ F))))) from hs)
   refine zBt (zDw rfl ?_)
   refine zAv (zAc (ge _ _ (zAb ?_)))
   have gP := (show St _ _ (_ :: _ :: _ :: _ :: _ :: ((dfs bs) ++ ((OB2 ++ ((M3 ++ (F))))))) from St.pk [[_], [_], OB2, M3, [_], [_], [_], [_], [_], (dfs bs)] [1,6,7,8,0,9,2,3] hs)
   have gQ := (show St _ _ (_ :: _ :: _ :: _ :: (dfs (bd :: bs) ++ (OB2 ++ (M3 ++ F)))) from gP)
   refine w_p (zBo rfl rfl rfl rfl (by omega) (by omega)) rfl (zA6 rfl rfl (zAd (zAc (gd _ _ (NxD.intro (bd :: bs) (f.lots.length - (i0 + 1)) (by omega) (by repeat (first | exact zD6 | refine zD5 rfl ?_ | refine zDz rfl ?_ _ | refine agree_mixin rfl ?_)) ?_)))))
   exact ⟨i0 + 1, v2, OB2, M3, rfl, by omega, rfl, by rw [open_no hall]; exact hown2, g6, gQ⟩
  try simp only [zS] at g7
  refine zBt (zAj (zAj (zAv (zAc (gw _ _ (zAf (fun jp gR => ?_)))))))
  have hin : i0 = f.lots.length := by omega
  subst hin
  obtain ⟨aV, cV, rfl, hslV⟩ := zHn (w0 := w0) hown []
  refine zAb (w_p (zAg isAgg22 hs rfl rfl (aow 0 [_])) rfl ?_)
  refine zBj 0 (.slice _ _ _) [_] sizeOf22 hs (fun jq gS => ?_)
  have gT := (show St _ _ (((dfs bs) ++ (_ :: (OB ++ (F))))) from St.pk [[_], [_], [_], [_], (dfs bs), OB, M] [4,0,5] gS)
  refine zBi rfl rfl (zAd (zAc (gR _ _ (zA8 (zHi ?_)))))
  refine q_retMM (l := [.cell 2 22, .tmp 3]) (vs := [_,_]) gT rfl (fun jr gj => ⟨⟨⟨rfl, _, rfl, zEk isAgg22 gj (aow 0 [_])⟩, ⟨rfl, (rfl : _ = Value.int _ _)⟩, trivial⟩, ?_⟩)
  exact ⟨OB, aV, cV, rfl, by rw [List.append_nil] at hslV; exact hslV, gj.tail⟩

end Go.Proofs.Uc
/- The examples of the claim layer: what the words say of them, by evaluation. No conditions. -/
namespace Go.Rt.Cm
def nmS (l : List UInt8) : ByteArray := ⟨l.toArray⟩
def papsF (k : Nat) : List Pap := if k = 0 then [⟨0,0,2⟩] else if k = 1 then [⟨0,0,2⟩, ⟨2,0,1⟩] else [⟨0,0,2⟩, ⟨1,0,1⟩]
def fileX (k : Nat) : File := ⟨[nmS [102,97,114,109], nmS [108,105,110,101], nmS [115,104,105,112], nmS [104,111,117,115,101]], [10,12,20,30], [⟨[0,1,2,3], 1,3,40⟩, ⟨[1,2], 0,1,25⟩], papsF k,
  [⟨0,2,15⟩, ⟨0,3,15⟩, ⟨1,1,14⟩, ⟨1,2,20⟩, ⟨0,2,12⟩]⟩
def fileT (lo hi : Int) : File := ⟨[nmS [112,46,48], nmS [112,46,49], nmS [112,46,50], nmS [112,46,51]], [60,60,60,60], [⟨[0,1,2,3], lo, hi, 7⟩], [], [⟨0,0,0⟩, ⟨0,1,1⟩, ⟨0,2,2⟩, ⟨0,3,3⟩]⟩
theorem ex_who : who (fileX 0) 0 = [2,3] := by decide +kernel
theorem ex_pays0 : pays (fileX 0) 0 = 2 := by decide +kernel
theorem ex_pays4 : pays (fileX 0) 4 = 0 := by decide +kernel
theorem ex_paysG : pays (fileX 1) 4 = 1 := by decide +kernel
theorem ex_held : held (fileX 0) = [1,3,4] := by decide +kernel
theorem ex_owesF : owes (fileX 0) 2 = (0,65) := by decide +kernel
theorem ex_owesG : owes (fileX 1) 2 = (65,65) := by decide +kernel
theorem ex_open : openTo (fileX 0) 2 = [1] := by decide +kernel
theorem ex_next : next (fileX 0) 1 12 = (1,2,0) := by decide +kernel
theorem ex_down : next (fileX 0) 1 13 = (0,0,9) := by decide +kernel
theorem ex_wrong : wrong (fileX 2) = [1] := by decide +kernel
theorem ex_none : truths (fileX 2) 0 = [] := by decide +kernel
theorem zFl : truths (fileX 0) 0 ≠ [] ∧ truths (fileX 1) 0 ≠ [] := by decide +kernel
def askT (lo hi : Nat) (p : Nat) : Bool :=
  decide (truths (fileT lo hi) 0 ≠ []) && (decide (((p : Nat) : Int) ∈ who (fileT lo hi) 0) && (decide ((owes (fileT lo hi) p).2 = 7) && (decide (openTo (fileT lo hi) 1 = []) &&
    (List.range 4).all fun i => decide (pays (fileT lo hi) i = if ¬ (lo ≤ i ∧ i ≤ hi) then 2 else if lo = hi then 1 else 0))))
theorem askT_all : ∀ lo, lo < 4 → ∀ hi, hi < 4 → ∀ p, p < 4 → lo ≤ p → p ≤ hi → askT lo hi p = true := by decide +kernel
theorem lotX0 : Lot.Ok 4 ⟨[0,1,2,3], 1,3,40⟩ := ⟨by decide, by decide, by decide, by decide, by decide⟩
theorem lotX1 : Lot.Ok 4 ⟨[1,2], 0,1,25⟩ := ⟨by decide, by decide, by decide, by decide, by decide⟩
theorem nms : (∀ s ∈ [nmS [102,97,114,109], nmS [108,105,110,101], nmS [115,104,105,112], nmS [104,111,117,115,101]], nmOk s = true ∧ s.size ≤ 1000) ∧ ∀ s ∈ [nmS [112,46,48], nmS [112,46,49], nmS [112,46,50], nmS [112,46,51]], nmOk s = true ∧ s.size ≤ 1000 := by decide +kernel
theorem zEd (k : Nat) (hk : k < 3) : (fileX k).Ok where
  np := by show 4 ≤ 4; decide
  nm := nms.1
  tw := by show [nmS [102,97,114,109], nmS [108,105,110,101], nmS [115,104,105,112], nmS [104,111,117,115,101]].Nodup; decide +kernel
  lu := rfl
  un := by show ∀ z ∈ ([10,12,20,30] : List Int), 0 ≤ z ∧ z ≤ 60; decide
  ll := by show 2 ≤ 4; decide
  lot := by
    intro l hl
    have hl2 : l = ⟨[0,1,2,3], 1,3,40⟩ ∨ l = ⟨[1,2], 0,1,25⟩ := by simpa [fileX] using hl
    rcases hl2 with rfl | rfl
    · exact lotX0
    · exact lotX1
  lp := by match k, hk with | 0, _ => decide | 1, _ => decide | 2, _ => decide
  pap := by
    intro x hx
    match k, hk with
    | 0, _ =>
      have h2 : x = ⟨0,0,2⟩ := by simpa [fileX, papsF] using hx
      subst h2
      exact ⟨by decide, by decide, by decide, fun _ => by decide⟩
    | 1, _ =>
      have h2 : x = ⟨0,0,2⟩ ∨ x = ⟨2,0,1⟩ := by simpa [fileX, papsF] using hx
      rcases h2 with rfl | rfl
      · exact ⟨by decide, by decide, by decide, fun _ => by decide⟩
      · exact ⟨by decide, by decide, by decide, by decide⟩
    | 2, _ =>
      have h2 : x = ⟨0,0,2⟩ ∨ x = ⟨1,0,1⟩ := by simpa [fileX, papsF] using hx
      rcases h2 with rfl | rfl
      · exact ⟨by decide, by decide, by decide, fun _ => by decide⟩
      · exact ⟨by decide, by decide, by decide, fun _ => by decide⟩
  lc := by show 5 ≤ 5; decide
  clm := by match k, hk with | 0, _ => decide | 1, _ => decide | 2, _ => decide
theorem fileT_ok {lo hi : Int} (h : 0 ≤ lo ∧ lo ≤ hi ∧ hi ≤ 3) : (fileT lo hi).Ok where
  np := by show 4 ≤ 4; decide
  nm := nms.2
  tw := by show [nmS [112,46,48], nmS [112,46,49], nmS [112,46,50], nmS [112,46,51]].Nodup; decide +kernel
  lu := rfl
  un := by show ∀ z ∈ ([60,60,60,60] : List Int), 0 ≤ z ∧ z ≤ 60; decide
  ll := by show 1 ≤ 4; decide
  lot := by
    intro l hl
    have hl2 : l = ⟨[0,1,2,3], lo, hi, 7⟩ := by simpa [fileT] using hl
    subst hl2
    exact ⟨by show 1 ≤ 4 ∧ 4 ≤ 4; decide, by show ∀ i, i < [(0 : Int), 1,2,3].length - 1 → [(0 : Int), 1,2,3].getD i 0 < [(0 : Int), 1,2,3].getD (i + 1) 0; decide, by show ∀ z ∈ [(0 : Int), 1,2,3], 0 ≤ z ∧ z < ((4 : Nat) : Int); decide, by show 0 ≤ lo ∧ lo ≤ hi ∧ hi < ((4 : Nat) : Int); omega, by show (1 : Int) ≤ 7 ∧ (7 : Int) ≤ 99; decide⟩
  lp := by show 0 ≤ 5; decide
  pap := by intro x hx; simp [fileT] at hx
  lc := by show 4 ≤ 5; decide
  clm := by
    show ∀ x ∈ ([⟨0,0,0⟩, ⟨0,1,1⟩, ⟨0,2,2⟩, ⟨0,3,3⟩] : List Clm),(0 ≤ x.lot ∧ x.lot < ((1 : Nat) : Int)) ∧ (0 ≤ x.against ∧ x.against < ((4 : Nat) : Int)) ∧ 0 ≤ x.day ∧ x.day ≤ 60
    decide
end Go.Rt.Cm
set_option maxRecDepth 20000
namespace Go.Proofs.Uc
open Go.Proofs.Tryz
open Go.Rt Go.Rt.Cm
open Go.Rt.Ha (felt spanL upto zBv listL bit Bunch zB8 zCi zBx zB2 zCg zCf zBu)
attribute [local irreducible] WL WC Con Yd At Ats Sl Agree DW
theorem Try_LP_fb3 (x0 : Int) (x1 : Int) (w : World) : (Instr.build 36 [(0, .int .i64 x0),(1, .int .i64 x1)].toArray).run Tryz.prog w = .ok (.agg #[.int .i64 x0, .int .i64 x1]) w := by kernel_rfl
theorem Try_LP_fb4 (x0 : ByteArray) (x1 : ByteArray) (x2 : ByteArray) (x3 : ByteArray) (w : World) : (Instr.buildSlice 51 4 [(0, .string x0),(1, .string x1),(2, .string x2),(3, .string x3)].toArray).run Tryz.prog w = .ok (.slice (some ⟨w.heap.size, 0, none⟩) 4 4) (w.alloc (Go.Rt.blk 9 [.string x0, .string x1, .string x2, .string x3])) := by kernel_rfl
theorem Try_LP_fb5 (x0 : Int) (x1 : Int) (x2 : Int) (x3 : Int) (w : World) : (Instr.buildSlice 22 4 [(0, .int .i64 x0),(1, .int .i64 x1),(2, .int .i64 x2),(3, .int .i64 x3)].toArray).run Tryz.prog w = .ok (.slice (some ⟨w.heap.size, 0, none⟩) 4 4) (w.alloc (Go.Rt.blk 3 [.int .i64 x0, .int .i64 x1, .int .i64 x2, .int .i64 x3])) := by kernel_rfl
theorem Try_LP_fb6 (x0 : Option Addr) (l0 c0 : Nat) (x1 : Int) (x2 : Int) (x3 : Int) (w : World) : (Instr.build 100 [(0, .slice x0 l0 c0),(1, .agg #[.int .i64 x1, .int .i64 x2]),(2, .int .i64 x3)].toArray).run Tryz.prog w = .ok (.agg #[.slice x0 l0 c0, .int .i64 x1, .int .i64 x2, .int .i64 x3]) w := by kernel_rfl
theorem Try_LP_fb7 (x0 : Int) (x1 : Int) (w : World) : (Instr.buildSlice 22 2 [(0, .int .i64 x0),(1, .int .i64 x1)].toArray).run Tryz.prog w = .ok (.slice (some ⟨w.heap.size, 0, none⟩) 2 2) (w.alloc (Go.Rt.blk 3 [.int .i64 x0, .int .i64 x1])) := by kernel_rfl
theorem Try_LP_fb8 (x0 : Option Addr) (l0 c0 : Nat) (x1 : Int) (x2 : Int) (x3 : Int) (x4 : Option Addr) (l4 c4 : Nat) (x5 : Int) (x6 : Int) (x7 : Int) (w : World) : (Instr.buildSlice 52 2 [(0, .agg #[.slice x0 l0 c0, .int .i64 x1, .int .i64 x2, .int .i64 x3]),(1, .agg #[.slice x4 l4 c4, .int .i64 x5, .int .i64 x6, .int .i64 x7])].toArray).run Tryz.prog w = .ok (.slice (some ⟨w.heap.size, 0, none⟩) 2 2) (w.alloc (Go.Rt.blk 100 [.slice x0 l0 c0, .int .i64 x1, .int .i64 x2, .int .i64 x3, .slice x4 l4 c4, .int .i64 x5, .int .i64 x6, .int .i64 x7])) := by kernel_rfl
theorem Try_LP_fb9 (x0 : Int) (w : World) : (Instr.build 113 [(2, .int .i64 x0)].toArray).run Tryz.prog w = .ok (.agg #[.int .i64 0, .int .i64 0, .int .i64 x0]) w := by kernel_rfl
theorem zG8 (x0 : Int) (x1 : Int) (x2 : Int) (w : World) : (Instr.buildSlice 53 1 [(0, .agg #[.int .i64 x0, .int .i64 x1, .int .i64 x2])].toArray).run Tryz.prog w = .ok (.slice (some ⟨w.heap.size, 0, none⟩) 1 1) (w.alloc (Go.Rt.blk 113 [.int .i64 x0, .int .i64 x1, .int .i64 x2])) := by kernel_rfl
theorem Try_info113 : Tryz.prog.info? 113 = some Tryz.t113 := by kernel_rfl
theorem zG7 (x0 : Int) (x1 : Int) (w : World) : (Instr.build 102 [(1, .int .i64 x0),(2, .int .i64 x1)].toArray).run Tryz.prog w = .ok (.agg #[.int .i64 0, .int .i64 x0, .int .i64 x1]) w := by kernel_rfl
theorem Try_LP_fb13 (x0 : Int) (x1 : Int) (x2 : Int) (w : World) : (Instr.build 102 [(0, .int .i64 x0),(1, .int .i64 x1),(2, .int .i64 x2)].toArray).run Tryz.prog w = .ok (.agg #[.int .i64 x0, .int .i64 x1, .int .i64 x2]) w := by kernel_rfl
theorem Try_LP_fb14 (x0 : Int) (x1 : Int) (x2 : Int) (x3 : Int) (x4 : Int) (x5 : Int) (x6 : Int) (x7 : Int) (x8 : Int) (x9 : Int) (x10 : Int) (x11 : Int) (x12 : Int) (x13 : Int) (x14 : Int) (w : World) : (Instr.buildSlice 54 5 [(0, .agg #[.int .i64 x0, .int .i64 x1, .int .i64 x2]),(1, .agg #[.int .i64 x3, .int .i64 x4, .int .i64 x5]),(2, .agg #[.int .i64 x6, .int .i64 x7, .int .i64 x8]),(3, .agg #[.int .i64 x9, .int .i64 x10, .int .i64 x11]),(4, .agg #[.int .i64 x12, .int .i64 x13, .int .i64 x14])].toArray).run Tryz.prog w = .ok (.slice (some ⟨w.heap.size, 0, none⟩) 5 5) (w.alloc (Go.Rt.blk 102 [.int .i64 x0, .int .i64 x1, .int .i64 x2, .int .i64 x3, .int .i64 x4, .int .i64 x5, .int .i64 x6, .int .i64 x7, .int .i64 x8, .int .i64 x9, .int .i64 x10, .int .i64 x11, .int .i64 x12, .int .i64 x13, .int .i64 x14])) := by kernel_rfl
theorem Try_LP_fb15 (x0 : Option Addr) (l0 c0 : Nat) (x1 : Option Addr) (l1 c1 : Nat) (x2 : Option Addr) (l2 c2 : Nat) (x3 : Option Addr) (l3 c3 : Nat) (x4 : Option Addr) (l4 c4 : Nat) (w : World) : (Instr.build 56 [(0, .slice x0 l0 c0),(1, .slice x1 l1 c1),(2, .slice x2 l2 c2),(3, .slice x3 l3 c3),(4, .slice x4 l4 c4)].toArray).run Tryz.prog w = .ok (.agg #[.slice x0 l0 c0, .slice x1 l1 c1, .slice x2 l2 c2, .slice x3 l3 c3, .slice x4 l4 c4]) w := by kernel_rfl
theorem Try_LP_fb16 (x0 : Int) (x1 : Int) (w : World) : (Instr.build 113 [(0, .int .i64 x0),(2, .int .i64 x1)].toArray).run Tryz.prog w = .ok (.agg #[.int .i64 x0, .int .i64 0, .int .i64 x1]) w := by kernel_rfl
theorem c38 {w0 w : World} {F : List (Nat × Obj)} (a b : Int) (hs : St w0 w F) :
  Con Tryz.prog 38 [.int .i64 a, .int .i64 b] w fun v w' => v = .agg #[.int .i64 a, .int .i64 b] ∧ St w0 w' F := by
  refine zAo (n := 8) func38 rfl rfl (zNl rfl) ?_
  refine zAf (fun K2 g3 => (zAb (zA1 (cs := [_,_]) zAa zeroValue36 rfl hs (fun b3 w4 g4 => ?_))))
  refine zAd (zAc (g3 _ _ (zAf (fun K7 g5 => (zAb (zA6 rfl rfl (zA6 rfl rfl (w_p (zB1 (ps := [(0, _),(1, _)]) (pv := [(0, .int _ _),(1, .int _ _)]) rfl rfl (fun w => Try_LP_fb3 _ _ w)) rfl ?_))))))))
  refine zBj 0 (.agg #[.int _ _, .int _ _]) [_,_] sizeOf36 g4 (fun w8 g0 => ?_)
  refine zAd (zAc (g5 _ _ (zA8 (zBa (l := [.cell 4 36]) (vs := [_]) rfl ⟨⟨rfl, _, rfl, zCv (vs := [_,_]) isAgg36 sizeOf36 g0 (aow 0 [_,_])⟩, trivial⟩ ?_))))
  exact ⟨rfl, g0.tail⟩

theorem own_rows {w0 : World} {v : Value} {t : TypeId} {l : List Pap} {n : Nat} {xs : List Value} {B : List (Nat × Obj)} (h : Rt.Own v t 3 n xs B) (hn : l.length = n) (hx : xs = (prows l).flatten) (F : List (Nat × Obj)) : ∃ a c, v = .slice a l.length c ∧ Sl w0 (B ++ F) a 3 (prows l) := by
  obtain ⟨a, c, h1, h2⟩ := Rt.Own.sl (w0 := w0) h (rows := prows l) (by intro row hr; obtain ⟨x, _, rfl⟩ := List.mem_map.1 hr; rfl) (by simp [prows, hn]) hx F
  refine ⟨a, c, ?_, h2⟩
  rw [h1]; simp [prows]
theorem c28 {w0 w : World} {F : List (Nat × Obj)} (k : Nat) (a : Option Addr) (n : Nat) (ps : List Pap) (hk : papsF k = ⟨0,0,2⟩ :: ps) (hpl : ps.length ≤ 4) (hps : Sl w0 F a 3 (prows ps)) (hn : a = none → n = 0) (hs : St w0 w F) :
  Con Tryz.prog 28 [.slice a ps.length n] w fun v w' => ∃ (B : List (Nat × Obj)) (p : AtF), v = .agg ((fileX k).cells p).toArray ∧ FIn w0 B (fileX k) p ∧ St w0 w' (B ++ F) := by
  refine zAo (n := 23) func28 rfl rfl (zNl rfl) ?_
  refine zAf (fun K2 g5 => (zAb (zA1 (cs := [_,_,_,_,_]) zAa zeroValue56 rfl hs (fun b3 w4 g6 => ?_))))
  refine zAd (zAc (g5 _ _ (zAf (fun K7 g7 => (zAb (zAu (ps := [(0, _),(1, _),(2, _),(3, _)]) (pv := [(0, .string _),(1, .string _),(2, .string _),(3, .string _)]) (cs := [_,_,_,_]) zAa rfl rfl (fun w => Try_LP_fb4 _ _ _ _ w) g6 (fun b8 w9 g8 => ?_)))))))
  refine zAu (ps := [(0, _),(1, _),(2, _),(3, _)]) (pv := [(0, .int _ _),(1, .int _ _),(2, .int _ _),(3, .int _ _)]) (cs := [_,_,_,_]) zAa rfl rfl (fun w => Try_LP_fb5 _ _ _ _ w) g8 (fun g9 gt ga => ?_)
  refine zAu (ps := [(0, _),(1, _),(2, _),(3, _)]) (pv := [(0, .int _ _),(1, .int _ _),(2, .int _ _),(3, .int _ _)]) (cs := [_,_,_,_]) zAa rfl rfl (fun w => Try_LP_fb5 _ _ _ _ w) ga (fun gc gu gd => ?_)
  refine zCo zAa call38 rfl rfl rfl rfl (c38 _ _ gd) (fun gv ge => ?_)
  refine w_p (zB1 (ps := [(0, _),(1, _),(2, _)]) (pv := [(0, .slice _ _ _),(1, .agg #[.int _ _, .int _ _]),(2, .int _ _)]) rfl rfl (fun w => Try_LP_fb6 _ _ _ _ _ _ w)) rfl (zAu (ps := [(0, _),(1, _)]) (pv := [(0, .int _ _),(1, .int _ _)]) (cs := [_,_]) zAa rfl rfl (fun w => Try_LP_fb7 _ _ w) ge (fun gf gw gg => ?_))
  refine zCo zAa call38 rfl rfl rfl rfl (c38 _ _ gg) (fun gx gh => ?_)
  refine w_p (zB1 (ps := [(0, _),(1, _),(2, _)]) (pv := [(0, .slice _ _ _),(1, .agg #[.int _ _, .int _ _]),(2, .int _ _)]) rfl rfl (fun w => Try_LP_fb6 _ _ _ _ _ _ w)) rfl (zAu (ps := [(0, _),(1, _)]) (pv := [(0, .agg #[.slice _ _ _, .int _ _, .int _ _, .int _ _]),(1, .agg #[.slice _ _ _, .int _ _, .int _ _, .int _ _])]) (cs := [_,_,_,_,_,_,_,_]) zAa rfl rfl (fun w => Try_LP_fb8 _ _ _ _ _ _ _ _ _ _ _ _ w) gh (fun gi gy gj => ?_))
  refine w_p (zB1 (ps := [(2, _)]) (pv := [(2, .int _ _)]) rfl rfl (fun w => Try_LP_fb9 _ w)) rfl (zAu (ps := [(0, _)]) (pv := [(0, .agg #[.int _ _, .int _ _, .int _ _])]) (cs := [_,_,_]) zAa rfl rfl (fun w => zG8 _ _ _ w) gj (fun gz gA gk => ?_))
  refine w_p (zAx rfl rfl) rfl (zC7 (X := ([])) (B := [_]) (rows := (prows ps)) (sz := 3) (bytes := 24) zAa underlying53 Try_info113 rfl rfl rfl rfl rfl rfl rfl rfl rfl gk (own_lit rfl (by simp [maxLen])) hps.cons.cons.cons.cons.cons.cons.cons (by simp [prows]) hn (by intro row hr u hu; obtain ⟨x, _, rfl⟩ := List.mem_map.1 hr; simp [Pap.cells] at hu; rcases hu with rfl | rfl | rfl <;> rfl) (by simp only [maxLen]; omega) (by omega) (fun gB gC g0 gm g3 => ?_))
  replace g3 := (show St _ _ (g0 ++ (_ :: _ :: _ :: _ :: _ :: _ :: F)) from g3)
  have gn := (show St _ _ (_ :: _ :: _ :: _ :: _ :: _ :: (g0 ++ (F))) from St.pk [g0, [_], [_], [_], [_], [_], [_]] [1,2,3,4,5,6,0] g3)
  obtain ⟨aP, cP, rfl, hslP⟩ := own_rows (w0 := w0) (l := papsF k) gm (by rw [hk]; simp [Nat.add_comm]) (by rw [hk]; rfl) []
  refine w_p (zB1 (ps := [(1, _),(2, _)]) (pv := [(1, .int _ _),(2, .int _ _)]) rfl rfl (fun w => zG7 _ _ w)) rfl (w_p (zB1 (ps := [(1, _),(2, _)]) (pv := [(1, .int _ _),(2, .int _ _)]) rfl rfl (fun w => zG7 _ _ w)) rfl ?_)
  refine w_p (zB1 (ps := [(0, _),(1, _),(2, _)]) (pv := [(0, .int _ _),(1, .int _ _),(2, .int _ _)]) rfl rfl (fun w => Try_LP_fb13 _ _ _ w)) rfl (w_p (zB1 (ps := [(0, _),(1, _),(2, _)]) (pv := [(0, .int _ _),(1, .int _ _),(2, .int _ _)]) rfl rfl (fun w => Try_LP_fb13 _ _ _ w)) rfl ?_)
  refine w_p (zB1 (ps := [(1, _),(2, _)]) (pv := [(1, .int _ _),(2, .int _ _)]) rfl rfl (fun w => zG7 _ _ w)) rfl (zAu (ps := [(0, _),(1, _),(2, _),(3, _),(4, _)]) (pv := [(0, .agg #[.int _ _, .int _ _, .int _ _]),(1, .agg #[.int _ _, .int _ _, .int _ _]),(2, .agg #[.int _ _, .int _ _, .int _ _]),(3, .agg #[.int _ _, .int _ _, .int _ _]),(4, .agg #[.int _ _, .int _ _, .int _ _])]) (cs := [_,_,_,_,_,_,_,_,_,_,_,_,_,_,_]) zAa rfl rfl (fun w => Try_LP_fb14 _ _ _ _ _ _ _ _ _ _ _ _ _ _ _ w) gn (fun go gD gp => ?_))
  refine w_p (zB1 (ps := [(0, _),(1, _),(2, _),(3, _),(4, _)]) (pv := [(0, .slice _ _ _),(1, .slice _ _ _),(2, .slice _ _ _),(3, .slice _ _ _),(4, .slice _ _ _)]) rfl rfl (fun w => Try_LP_fb15 _ _ _ _ _ _ _ _ _ _ _ _ _ _ _ w)) rfl ?_
  refine zBj 6 (.agg #[.slice _ _ _, .slice _ _ _, .slice _ _ _, .slice _ _ _, .slice _ _ _]) [_,_,_,_,_] sizeOf56 gp (fun gE g4 => ?_)
  refine zAd (zAc (g7 _ _ (zA8 (zBa (l := [.cell 2 56]) (vs := [_]) rfl ⟨⟨rfl, _, rfl, zCv (vs := [_,_,_,_,_]) isAgg56 sizeOf56 g4 (aow 6 [_,_,_,_,_])⟩, trivial⟩ ?_))))
  have gq := (show St _ _ (_ :: _ :: _ :: _ :: _ :: _ :: (g0 ++ (F))) from St.pk [[_], [_], [_], [_], [_], [_], [_], g0] [0,1,2,3,4,5,7] g4)
  rw [List.append_nil] at hslP
  refine ⟨_ :: _ :: _ :: _ :: _ :: _ :: g0, ⟨some ⟨b8,0, none⟩, 4, some ⟨g9,0, none⟩, 4, some ⟨gi,0, none⟩, 2, aP, cP, some ⟨go,0, none⟩, 5, fun i => if i = 0 then some ⟨gc,0, none⟩ else some ⟨gf,0, none⟩, fun i => if i = 0 then 4 else 2⟩, rfl, ⟨(zBb (i := 5) rfl (by intro row h; obtain ⟨q, _, rfl⟩ := List.mem_map.1 h; rfl) rfl), (zBb (i := 4) rfl (by intro row h; obtain ⟨q, _, rfl⟩ := List.mem_map.1 h; rfl) rfl), ?_, ?_, Sl.cons (Sl.cons (Sl.cons (Sl.cons (Sl.cons (Sl.cons (hslP)))))), (zBb (i := 0) rfl (by intro row h; obtain ⟨q, _, rfl⟩ := List.mem_map.1 h; rfl) rfl), by show 4 ≤ 4; decide⟩, gq⟩
  · exact zBb (i := 1) rfl (by intro row h; obtain ⟨q, _, rfl⟩ := List.mem_map.1 h; rfl) rfl
  · intro i hi
    match i, hi with
    | 0, _ => exact (zBb (i := 3) rfl (by intro row h; obtain ⟨q, _, rfl⟩ := List.mem_map.1 h; rfl) rfl)
    | 1, _ => exact (zBb (i := 2) rfl (by intro row h; obtain ⟨q, _, rfl⟩ := List.mem_map.1 h; rfl) rfl)

theorem c29 {w0 w : World} {F : List (Nat × Obj)}  (hs : St w0 w F) :
  Con Tryz.prog 29 [] w fun v w' => ∃ (B : List (Nat × Obj)) (p : AtF), v = .agg ((fileX 1).cells p).toArray ∧ FIn w0 B (fileX 1) p ∧ St w0 w' (B ++ F) := by
  refine zAo (n := 4) func29 rfl rfl (zNl rfl) ?_
  refine zAf (fun K2 g4 => (zAb (zA1 (cs := [_,_,_,_,_]) zAa zeroValue56 rfl hs (fun b3 w4 g5 => ?_))))
  refine zAd (zAc (g4 _ _ (zAf (fun K7 g6 => (zAb (w_p (zB1 (ps := [(0, _),(2, _)]) (pv := [(0, .int _ _),(2, .int _ _)]) rfl rfl (fun w => Try_LP_fb16 _ _ w)) rfl ?_))))))
  refine zAu (ps := [(0, _)]) (pv := [(0, .agg #[.int _ _, .int _ _, .int _ _])]) (cs := [_,_,_]) zAa rfl rfl (fun w => zG8 _ _ _ w) g5 (fun b8 w9 g7 => ?_)
  refine zA4 zAa call28 rfl rfl rfl rfl (c28 1 _ _ [⟨2,0,1⟩] rfl (by decide) (zBb (i := 0) (rows := prows [⟨2,0,1⟩]) rfl (by intro row h; obtain ⟨q, _, rfl⟩ := List.mem_map.1 h; rfl) rfl) (by simp) g7) ?_
  rintro _ ga ⟨B, p, rfl, hfi, g0⟩
  replace g0 := (show St _ _ (B ++ (_ :: _ :: F)) from g0)
  have g8 := (show St _ _ (_ :: _ :: (B ++ (F))) from St.pk [B, [_], [_]] [1,2,0] g0)
  refine zBj 1 (.agg #[.slice _ _ _, .slice _ _ _, .slice _ _ _, .slice _ _ _, .slice _ _ _]) [_,_,_,_,_] sizeOf56 g8 (fun gc g3 => ?_)
  refine zAd (zAc (g6 _ _ (zA8 (zBa (l := [.cell 0 56]) (vs := [_]) rfl ⟨⟨rfl, _, rfl, zCv (vs := [_,_,_,_,_]) isAgg56 sizeOf56 g3 (aow 1 [_,_,_,_,_])⟩, trivial⟩ ?_))))
  have g9 := (show St _ _ ((B ++ (F))) from g3.tail.tail)
  exact ⟨B, p, rfl, hfi, g9⟩

theorem c30 {w0 w : World} {F : List (Nat × Obj)}  (hs : St w0 w F) :
  Con Tryz.prog 30 [] w fun v w' => ∃ (B : List (Nat × Obj)) (p : AtF), v = .agg ((fileX 2).cells p).toArray ∧ FIn w0 B (fileX 2) p ∧ St w0 w' (B ++ F) := by
  refine zAo (n := 4) func30 rfl rfl (zNl rfl) ?_
  refine zAf (fun K2 g4 => (zAb (zA1 (cs := [_,_,_,_,_]) zAa zeroValue56 rfl hs (fun b3 w4 g5 => ?_))))
  refine zAd (zAc (g4 _ _ (zAf (fun K7 g6 => (zAb (w_p (zB1 (ps := [(0, _),(2, _)]) (pv := [(0, .int _ _),(2, .int _ _)]) rfl rfl (fun w => Try_LP_fb16 _ _ w)) rfl ?_))))))
  refine zAu (ps := [(0, _)]) (pv := [(0, .agg #[.int _ _, .int _ _, .int _ _])]) (cs := [_,_,_]) zAa rfl rfl (fun w => zG8 _ _ _ w) g5 (fun b8 w9 g7 => ?_)
  refine zA4 zAa call28 rfl rfl rfl rfl (c28 2 _ _ [⟨1,0,1⟩] rfl (by decide) (zBb (i := 0) (rows := prows [⟨1,0,1⟩]) rfl (by intro row h; obtain ⟨q, _, rfl⟩ := List.mem_map.1 h; rfl) rfl) (by simp) g7) ?_
  rintro _ ga ⟨B, p, rfl, hfi, g0⟩
  replace g0 := (show St _ _ (B ++ (_ :: _ :: F)) from g0)
  have g8 := (show St _ _ (_ :: _ :: (B ++ (F))) from St.pk [B, [_], [_]] [1,2,0] g0)
  refine zBj 1 (.agg #[.slice _ _ _, .slice _ _ _, .slice _ _ _, .slice _ _ _, .slice _ _ _]) [_,_,_,_,_] sizeOf56 g8 (fun gc g3 => ?_)
  refine zAd (zAc (g6 _ _ (zA8 (zBa (l := [.cell 0 56]) (vs := [_]) rfl ⟨⟨rfl, _, rfl, zCv (vs := [_,_,_,_,_]) isAgg56 sizeOf56 g3 (aow 1 [_,_,_,_,_])⟩, trivial⟩ ?_))))
  have g9 := (show St _ _ ((B ++ (F))) from g3.tail.tail)
  exact ⟨B, p, rfl, hfi, g9⟩

end Go.Proofs.Uc
set_option maxRecDepth 20000
namespace Go.Proofs.Uc
open Go.Proofs.Tryz
open Go.Rt Go.Rt.Cm
open Go.Rt.Ha (felt spanL upto zBv listL bit Bunch zB8 zCi zBx zB2 zCg zCf zBu)
attribute [local irreducible] WL WC Con Yd At Ats Sl Agree DW
theorem Try_LQ_fb4 (x0 : Int) (x1 : Int) (w : World) : (Instr.buildSlice 22 2 [(0, .int .i64 x0),(1, .int .i64 x1)].toArray).run Tryz.prog w = .ok (.slice (some ⟨w.heap.size, 0, none⟩) 2 2) (w.alloc (Go.Rt.blk 3 [.int .i64 x0, .int .i64 x1])) := by kernel_rfl
theorem Try_LQ_fb5 (x0 : Int) (x1 : Int) (x2 : Int) (w : World) : (Instr.buildSlice 22 3 [(0, .int .i64 x0),(1, .int .i64 x1),(2, .int .i64 x2)].toArray).run Tryz.prog w = .ok (.slice (some ⟨w.heap.size, 0, none⟩) 3 3) (w.alloc (Go.Rt.blk 3 [.int .i64 x0, .int .i64 x1, .int .i64 x2])) := by kernel_rfl
theorem zE7 : flatInts Tryz.prog 36 2 = true := by kernel_rfl
theorem Try_LQ_fb7 (x0 : Int) (w : World) : (Instr.buildSlice 22 1 [(0, .int .i64 x0)].toArray).run Tryz.prog w = .ok (.slice (some ⟨w.heap.size, 0, none⟩) 1 1) (w.alloc (Go.Rt.blk 3 [.int .i64 x0])) := by kernel_rfl
theorem zIl {w0 w : World} {L : List (Nat × Obj)} {i b : Nat} {t : TypeId} {cs vs : List Value} (hs : St w0 w L) (hi : L[i]? = some (b, blk t cs)) (h : (cs.drop 0).take vs.length = vs) : Ats w0 L b 0 vs := zB9 hi h
theorem gen_Z {w0 w : World} {L : List (Nat × Obj)} (hs : St w0 w L) : ∃ Z, Z = L ∧ St w0 w Z := ⟨L, rfl, hs⟩
theorem zEo {k : FuncId} {args : List Value} {w : World} {x : Bool} {S : World → Prop} (h : Con Tryz.prog k args w fun v w' => v = .bool x ∧ S w') (hx : x = true) : Con Tryz.prog k args w fun v w' => v = .bool true ∧ S w' := by subst hx; exact h
theorem c7 {w0 w : World} {F : List (Nat × Obj)}  (hs : St w0 w F) :
  Con Tryz.prog 7 [] w fun v w' => v = .bool true ∧ St w0 w' F := by
  refine zAo (n := 191) func7 rfl rfl (zNl rfl) ?_
  refine zAf (fun K2 gz => (zAb (zBi rfl rfl (zAd (zAc (gz _ _ (zAf (fun K4 gA => (zAb (zA4 zAa call28 rfl rfl rfl rfl (c28 0 none 0 [] rfl (by decide) (Sl.nil _ _) (fun _ => rfl) hs) ?_))))))))))
  rintro _ w6 ⟨L1, p1, rfl, hq1, g7⟩
  replace g7 := (show St _ _ (L1 ++ (F)) from g7)
  refine zA4 zAa call29 rfl rfl rfl rfl (c29 g7) ?_
  rintro _ w9 ⟨L2, p2, rfl, hq2, g8⟩
  replace g8 := (show St _ _ (L2 ++ (L1 ++ (F))) from g8)
  refine zA4 zAa call30 rfl rfl rfl rfl (c30 g8) ?_
  rintro _ hX ⟨L3, p3, rfl, hq3, g9⟩
  replace g9 := (show St _ _ (L3 ++ (L2 ++ (L1 ++ (F)))) from g9)
  refine zA1 (cs := [_,_,_,_,_]) zAa zeroValue56 rfl g9 (fun gB hY gC => ?_)
  refine zA1 (cs := [_,_,_,_,_]) zAa zeroValue56 rfl gC (fun gD j0 gE => ?_)
  refine zA1 (cs := [_,_,_,_,_]) zAa zeroValue56 rfl gE (fun gF j1 gG => ?_)
  refine zBj 2 (.agg #[.slice _ _ _, .slice _ _ _, .slice _ _ _, .slice _ _ _, .slice _ _ _]) [_,_,_,_,_] sizeOf56 gG (fun j3 gH => ?_)
  refine zBj 1 (.agg #[.slice _ _ _, .slice _ _ _, .slice _ _ _, .slice _ _ _, .slice _ _ _]) [_,_,_,_,_] sizeOf56 gH (fun j4 gI => ?_)
  refine zBj 0 (.agg #[.slice _ _ _, .slice _ _ _, .slice _ _ _, .slice _ _ _, .slice _ _ _]) [_,_,_,_,_] sizeOf56 gI (fun j5 gJ => ?_)
  refine zAd (zAc (gA _ _ (zAf (fun j6 gK => ?_))))
  obtain ⟨Z, hZ, hsZ⟩ := gen_Z gJ
  have hP1 : Ats w0 Z gB 0 ((fileX 0).cells p1) := by rw [hZ]; exact zB9 (i := 2) (vs := (fileX 0).cells p1) rfl rfl
  have g0 : FIn w0 Z (fileX 0) p1 := by rw [hZ]; exact FIn.mono hq1 (fun w h => h.tail.tail.tail.drop.drop.front)
  have hP2 : Ats w0 Z gD 0 ((fileX 1).cells p2) := by rw [hZ]; exact zB9 (i := 1) (vs := (fileX 1).cells p2) rfl rfl
  have gh : FIn w0 Z (fileX 1) p2 := by rw [hZ]; exact FIn.mono hq2 (fun w h => h.tail.tail.tail.drop.front)
  have hP3 : Ats w0 Z gF 0 ((fileX 2).cells p3) := by rw [hZ]; exact zB9 (i := 0) (vs := (fileX 2).cells p3) rfl rfl
  have gi : FIn w0 Z (fileX 2) p3 := by rw [hZ]; exact FIn.mono hq3 (fun w h => h.tail.tail.tail.front)
  refine zAb (w_p (zA2 (vs := [_,_,_,_,_]) isAgg56 sizeOf56 hsZ rfl rfl hP1) rfl (zA4 zAa call31 rfl rfl rfl rfl ((c31y (fileX 0) p1 g0 (zEd 0 (by decide)) zFl.1 0 (by decide) hsZ).mono (fun v w' h => by rw [ex_who] at h; exact h)) ?_))
  rintro _ j7 ⟨B1, a1, c1, rfl, hr1, g3⟩
  replace g3 := (show St _ _ (B1 ++ (Z)) from g3)
  refine w_p (zA3 rfl rfl) rfl (w_p (zDj rfl rfl rfl) rfl (w_p (zAk rfl rfl rfl) rfl (w_p (zBz rfl rfl) rfl (zBw rfl rfl (zAd (zAc (gK _ _ (zAf (fun j8 gL => (zAb (w_p (zA2 (vs := [_,_,_,_,_]) isAgg56 sizeOf56 g3.drop rfl rfl hP1) rfl ?_)))))))))))
  refine zCo zAa call32 rfl rfl rfl rfl ((c32 (fileX 0) p1 g0.app (zEd 0 (by decide)) zFl.1 0 (by decide) g3).mono (fun v w' h => by rw [ex_pays0] at h; exact h)) (fun j9 gj => ?_)
  refine w_p (zA3 rfl rfl) rfl (w_p (zAk rfl rfl rfl) rfl (w_p (zAk rfl rfl rfl) rfl (zBw rfl rfl (zBw rfl rfl (zAd (zAc (gL _ _ (zAf (fun ja gM => (zAb (w_p (zA2 (vs := [_,_,_,_,_]) isAgg56 sizeOf56 gj.drop rfl rfl hP1) rfl ?_)))))))))))
  refine zCo zAa call32 rfl rfl rfl rfl ((c32 (fileX 0) p1 g0.app (zEd 0 (by decide)) zFl.1 4 (by decide) gj).mono (fun v w' h => by rw [ex_pays4] at h; exact h)) (fun jb gk => ?_)
  refine w_p (zA3 rfl rfl) rfl (w_p (zAk rfl rfl rfl) rfl (w_p (zAk rfl rfl rfl) rfl (zBw rfl rfl (zBw rfl rfl (zAd (zAc (gM _ _ (zAf (fun jc gN => (zAb (w_p (zA2 (vs := [_,_,_,_,_]) isAgg56 sizeOf56 gk.drop rfl rfl hP2) rfl ?_)))))))))))
  refine zCo zAa call32 rfl rfl rfl rfl ((c32 (fileX 1) p2 gh.app (zEd 1 (by decide)) zFl.2 4 (by decide) gk).mono (fun v w' h => by rw [ex_paysG] at h; exact h)) (fun jd gm => ?_)
  refine w_p (zA3 rfl rfl) rfl (w_p (zAk rfl rfl rfl) rfl (w_p (zAk rfl rfl rfl) rfl (zBw rfl rfl (zBw rfl rfl (zAd (zAc (gN _ _ (zAf (fun je gO => (zAb (w_p (zA2 (vs := [_,_,_,_,_]) isAgg56 sizeOf56 gm.drop rfl rfl hP1) rfl ?_)))))))))))
  refine zA4 zAa call33 rfl rfl rfl rfl ((c33 (fileX 0) p1 g0.app (zEd 0 (by decide)) zFl.1 gm).mono (fun v w' h => by rw [ex_held] at h; exact h)) ?_
  rintro _ jf ⟨B2, a2, c2, rfl, hr2, g4⟩
  replace g4 := (show St _ _ (B2 ++ (B1 ++ (Z))) from g4)
  refine w_p (zA3 rfl rfl) rfl (w_p (zDj rfl rfl rfl) rfl (w_p (zAk rfl rfl rfl) rfl (w_p (zBz rfl rfl) rfl (zBw rfl rfl (zAd (zAc (gO _ _ (zAf (fun jg gP => (zAb (w_p (zA2 (vs := [_,_,_,_,_]) isAgg56 sizeOf56 g4.drop.drop rfl rfl hP1) rfl ?_)))))))))))
  refine zCo zAa call34 rfl rfl rfl rfl ((c34 (fileX 0) p1 g0.app.app (zEd 0 (by decide)) zFl.1 2 (by decide) g4).mono (fun v w' h => by rw [show owes (fileX 0) ((2 : Nat) : Int) = (0,65) from ex_owesF] at h; exact h)) (fun jh gQ => ?_)
  refine w_p (zA3 rfl rfl) rfl (w_p (zDe (v := .agg _) rfl rfl rfl) rfl (w_p (zAk rfl rfl rfl) rfl (zA1 (cs := [_,_]) zAa zeroValue36 rfl gQ (fun ji jj gR => ?_))))
  refine zBj 0 (.agg #[.int _ _, .int _ _]) [_,_] sizeOf36 gR (fun jk ga => ?_)
  refine zBw rfl rfl (zAd (zAc (gP _ _ (zAf (fun jl gS => ?_)))))
  have hx14 := zIl (i := 0) (vs := [_,_]) ga rfl rfl
  refine zAb (w_p (zA2 (vs := [_,_,_,_,_]) isAgg56 sizeOf56 ga.tail.drop.drop rfl rfl hP2) rfl (zCo zAa call34 rfl rfl rfl rfl ((c34 (fileX 1) p2 gh.app.app.cons (zEd 1 (by decide)) zFl.2 2 (by decide) ga).mono (fun v w' h => by rw [show owes (fileX 1) ((2 : Nat) : Int) = (65,65) from ex_owesG] at h; exact h)) (fun jm gT => ?_)))
  refine w_p (zA3 rfl rfl) rfl (w_p (zDe (v := .agg _) rfl rfl rfl) rfl (w_p (zAk rfl rfl rfl) rfl (zA1 (cs := [_,_]) zAa zeroValue36 rfl gT (fun jo jp gU => ?_))))
  refine zBj 0 (.agg #[.int _ _, .int _ _]) [_,_] sizeOf36 gU (fun jq gc => ?_)
  refine zBw rfl rfl (zAd (zAc (gS _ _ (zAf (fun jr gV => ?_)))))
  have hx16 := zIl (i := 0) (vs := [_,_]) gc rfl rfl
  refine zAb (w_p (zA2 (vs := [_,_,_,_,_]) isAgg56 sizeOf56 gc.tail.tail.drop.drop rfl rfl hP1) rfl (zA4 zAa call35 rfl rfl rfl rfl ((c35 (fileX 0) p1 g0.app.app.cons.cons (zEd 0 (by decide)) zFl.1 gc).mono (fun v w' h => by rw [show openTo (fileX 0) (fileX 0).lots.length = [1] from ex_open] at h; exact h)) ?_))
  rintro _ js ⟨B3, a3, c3, rfl, hr3, g5⟩
  replace g5 := (show St _ _ (B3 ++ (_ :: _ :: B2 ++ (B1 ++ (Z)))) from g5)
  refine w_p (zA3 rfl rfl) rfl (w_p (zDj rfl rfl rfl) rfl (w_p (zAk rfl rfl rfl) rfl (w_p (zBz rfl rfl) rfl (zBw rfl rfl (zAd (zAc (gV _ _ (zAf (fun jt gW => (zAb (w_p (zA2 (vs := [_,_,_,_,_]) isAgg56 sizeOf56 g5.drop.tail.tail.drop.drop rfl rfl hP1) rfl ?_)))))))))))
  refine zCo zAa call36 rfl rfl rfl rfl ((c36 (fileX 0) p1 g0.app.app.cons.cons.app (zEd 0 (by decide)) zFl.1 1 (by decide) 12 (by decide) g5).mono (fun v w' h => by rw [ex_next] at h; exact h)) (fun ju gn => ?_)
  refine w_p (zA3 rfl rfl) rfl (w_p (zAk rfl rfl rfl) rfl (w_p (zAk rfl rfl rfl) rfl (w_p (zAk rfl rfl rfl) rfl (zBw rfl rfl (zBw rfl rfl (zBw rfl rfl (zAd (zAc (gW _ _ (zAf (fun jv gX => (zAb (w_p (zA2 (vs := [_,_,_,_,_]) isAgg56 sizeOf56 gn.drop.tail.tail.drop.drop rfl rfl hP1) rfl ?_)))))))))))))
  refine zCo zAa call36 rfl rfl rfl rfl ((c36 (fileX 0) p1 g0.app.app.cons.cons.app (zEd 0 (by decide)) zFl.1 1 (by decide) 13 (by decide) gn).mono (fun v w' h => by rw [ex_down] at h; exact h)) (fun jw go => ?_)
  refine w_p (zA3 rfl rfl) rfl (w_p (zAk rfl rfl rfl) rfl (w_p (zAk rfl rfl rfl) rfl (w_p (zAk rfl rfl rfl) rfl (zBw rfl rfl (zBw rfl rfl (zBw rfl rfl (zAd (zAc (gX _ _ (zAf (fun jx gY => (zAb (w_p (zA2 (vs := [_,_,_,_,_]) isAgg56 sizeOf56 go.drop.tail.tail.drop.drop rfl rfl hP3) rfl ?_)))))))))))))
  refine zA4 zAa call37 rfl rfl rfl rfl ((c37 (fileX 2) p3 gi.app.app.cons.cons.app (zEd 2 (by decide)) go).mono (fun v w' h => by rw [ex_wrong] at h; exact h)) ?_
  rintro _ jy ⟨B4, a4, c4, rfl, hr4, g6⟩
  replace g6 := (show St _ _ (B4 ++ (B3 ++ (_ :: _ :: B2 ++ (B1 ++ (Z))))) from g6)
  refine w_p (zA3 rfl rfl) rfl (w_p (zDj rfl rfl rfl) rfl (w_p (zAk rfl rfl rfl) rfl (w_p (zBz rfl rfl) rfl (zBw rfl rfl (zAd (zAc (gY _ _ (zAf (fun jz gZ => (zAb (w_p (zA2 (vs := [_,_,_,_,_]) isAgg56 sizeOf56 g6.drop.drop.tail.tail.drop.drop rfl rfl hP3) rfl ?_)))))))))))
  refine zCo zAa call31 rfl rfl rfl rfl ((c31z (fileX 2) p3 gi.app.app.cons.cons.app.app (zEd 2 (by decide)) ex_none 0 (by decide) g6).mono (fun v w' h => by  exact h)) (fun jA hD => ?_)
  refine w_p (zA3 rfl rfl) rfl (w_p (zDj rfl rfl rfl) rfl (w_p (zAk rfl rfl rfl) rfl (w_p (zBz rfl rfl) rfl (zBw rfl rfl (zAd (zAc (gZ _ _ (zAf (fun jB hN => (zCq [] [(0,0),(1,0),(2,0),(3,0),(4,0),(5,0),(6,0),(7,0),(8,0),(9,0),(10,0),(11,0),(12,0),(13,0),(14,0),(15,0),(16,0),(17,0),(18,0),(19,0),(20,0),(21,0),(22,0),(23,0),(24,0),(25,0),(26,0),(27,0),(28,0),(29,0),(30,0),(31,0),(32,0),(33,0),(34,0),(35,0),(36,0),(37,0),(38,0),(39,0),(40,0),(41,0),(42,0),(43,0),(44,0),(45,0),(46,0),(47,0),(48,2),(49,2),(50,0),(51,0),(52,0),(53,0),(54,0),(55,0),(56,0),(57,0),(58,0),(59,0),(60,0),(61,0),(62,0),(63,0),(64,0),(65,2),(66,2),(67,0),(68,0),(69,1),(70,2),(71,0),(72,0),(73,0),(74,1),(75,2),(76,0),(77,0),(78,0),(79,0),(80,2),(81,2),(82,0),(83,0),(84,0),(85,0),(86,0),(87,0),(88,0),(89,0),(90,0),(91,0),(92,0),(93,2),(94,2),(95,0),(96,0)] zB4 (zBk (by kernel_rfl)) hD (fun jC hP => ?_)))))))))))
  refine d_w rfl (fun _ => zAy rfl rfl) rfl (d_w rfl (fun _ => zCa rfl rfl rfl rfl) rfl (d_w rfl (fun _ => zAt rfl rfl) rfl ?_))
  refine zBe rfl (zAh rfl rfl rfl) rfl (fun _ => (zAy rfl rfl)) ?_
  refine zBe rfl (zAh rfl rfl rfl) rfl (fun _ => (zCa rfl rfl rfl rfl)) ?_
  refine d_w rfl (fun _ => zA5 (v := .bool _) rfl rfl rfl rfl) rfl (d_w rfl (fun _ => zAt rfl rfl) rfl ?_)
  refine zBe rfl (zAh rfl rfl rfl) rfl (fun _ => (zAy rfl rfl)) ?_
  refine zBe rfl (zAh rfl rfl rfl) rfl (fun _ => (zCa rfl rfl rfl rfl)) ?_
  refine d_w rfl (fun _ => zA5 (v := .bool _) rfl rfl rfl rfl) rfl (d_w rfl (fun _ => zAt rfl rfl) rfl ?_)
  refine zBe rfl (zAh rfl rfl rfl) rfl (fun _ => (zAy rfl rfl)) ?_
  refine zBe rfl (zAh rfl rfl rfl) rfl (fun _ => (zCa rfl rfl rfl rfl)) ?_
  refine d_w rfl (fun _ => zA5 (v := .bool _) rfl rfl rfl rfl) rfl (d_w rfl (fun _ => zAt rfl rfl) rfl ?_)
  refine zBe rfl (zAh rfl rfl rfl) rfl (fun _ => (zAy rfl rfl)) ?_
  refine zBe rfl (zAh rfl rfl rfl) rfl (fun _ => (zCa rfl rfl rfl rfl)) ?_
  refine d_w rfl (fun _ => zA5 (v := .bool _) rfl rfl rfl rfl) rfl (d_w rfl (fun _ => zAt rfl rfl) rfl ?_)
  refine zBe rfl (zAh rfl rfl rfl) rfl (fun _ => (zAy rfl rfl)) ?_
  refine zBe rfl (zAh rfl rfl rfl) rfl (fun _ => (zCa rfl rfl rfl rfl)) ?_
  refine d_w rfl (fun _ => zA5 (v := .bool _) rfl rfl rfl rfl) rfl (d_w rfl (fun _ => zAt rfl rfl) rfl ?_)
  refine zBe rfl (zAh rfl rfl rfl) rfl (fun _ => (zAy rfl rfl)) ?_
  refine zBe rfl (zAh rfl rfl rfl) rfl (fun _ => (zCa rfl rfl rfl rfl)) ?_
  refine d_w rfl (fun _ => zA5 (v := .bool _) rfl rfl rfl rfl) rfl (d_w rfl (fun _ => zAt rfl rfl) rfl ?_)
  refine zBe rfl (zAh rfl rfl rfl) rfl (fun _ => (zAy rfl rfl)) ?_
  refine zBe rfl (zAh rfl rfl rfl) rfl (fun _ => (zCa rfl rfl rfl rfl)) ?_
  refine d_w rfl (fun _ => zA5 (v := .bool _) rfl rfl rfl rfl) rfl (d_w rfl (fun _ => zAt rfl rfl) rfl ?_)
  refine zBe rfl (zAh rfl rfl rfl) rfl (fun _ => (zAy rfl rfl)) ?_
  refine zBe rfl (zAh rfl rfl rfl) rfl (fun _ => (zCa rfl rfl rfl rfl)) ?_
  refine d_w rfl (fun _ => zA5 (v := .bool _) rfl rfl rfl rfl) rfl (d_w rfl (fun _ => zAt rfl rfl) rfl ?_)
  refine zBe rfl (zAh rfl rfl rfl) rfl (fun _ => (zAy rfl rfl)) ?_
  refine zBe rfl (zAh rfl rfl rfl) rfl (fun _ => (zCa rfl rfl rfl rfl)) ?_
  refine d_w rfl (fun _ => zA5 (v := .bool _) rfl rfl rfl rfl) rfl (d_w rfl (fun _ => zAt rfl rfl) rfl ?_)
  refine zBe rfl (zAh rfl rfl rfl) rfl (fun _ => (zAy rfl rfl)) ?_
  refine zBe rfl (zAh rfl rfl rfl) rfl (fun _ => (zCa rfl rfl rfl rfl)) ?_
  refine d_w rfl (fun _ => zA5 (v := .bool _) rfl rfl rfl rfl) rfl (d_w rfl (fun _ => zAt rfl rfl) rfl ?_)
  refine zBe rfl (zAh rfl rfl rfl) rfl (fun _ => (zAy rfl rfl)) ?_
  refine zBe rfl (zAh rfl rfl rfl) rfl (fun _ => (zCa rfl rfl rfl rfl)) ?_
  refine d_w rfl (fun _ => zA5 (v := .bool _) rfl rfl rfl rfl) rfl (d_w rfl (fun _ => zAt rfl rfl) rfl ?_)
  refine zBe rfl (zAh rfl rfl rfl) rfl (fun _ => (zAx rfl rfl)) ?_
  refine zBh rfl ?_
  refine zAu (ps := [(0, _),(1, _)]) (pv := [(0, .int _ _),(1, .int _ _)]) (cs := [_,_]) (zAh rfl rfl rfl) rfl rfl (fun w => Try_LQ_fb4 _ _ w) hP (fun jD jE gp => ?_)
  refine zAd (qn ⟨gp.tail, ?_⟩)
  refine zBh rfl ?_
  refine zA4 (zAh rfl rfl rfl) call27 rfl rfl rfl rfl (zEo (c27 _ _ [2,3] [2,3] _ _ (by decide) (Sl.top hr1).app.cons.cons.app.app.cons (zBb (i := 0) (rows := [[_], [_]]) rfl (by simp) rfl) gp) (by decide)) ?_
  rintro _ jF ⟨rfl, gq⟩
  refine zAd (qn ⟨gq.tail, ?_⟩)
  refine d_w rfl (fun _ => zA5 (v := .bool _) rfl rfl rfl rfl) rfl (d_w rfl (fun _ => zAt rfl rfl) rfl ?_)
  refine zBe rfl (zAh rfl rfl rfl) rfl (fun _ => (zAy rfl rfl)) ?_
  refine zBe rfl (zAh rfl rfl rfl) rfl (fun _ => (zCa rfl rfl rfl rfl)) ?_
  refine d_w rfl (fun _ => zA5 (v := .bool _) rfl rfl rfl rfl) rfl (d_w rfl (fun _ => zAt rfl rfl) rfl ?_)
  refine zBe rfl (zAh rfl rfl rfl) rfl (fun _ => (zAy rfl rfl)) ?_
  refine zBe rfl (zAh rfl rfl rfl) rfl (fun _ => (zCa rfl rfl rfl rfl)) ?_
  refine d_w rfl (fun _ => zA5 (v := .bool _) rfl rfl rfl rfl) rfl (d_w rfl (fun _ => zAt rfl rfl) rfl ?_)
  refine zBe rfl (zAh rfl rfl rfl) rfl (fun _ => (zAy rfl rfl)) ?_
  refine zBe rfl (zAh rfl rfl rfl) rfl (fun _ => (zCa rfl rfl rfl rfl)) ?_
  refine d_w rfl (fun _ => zA5 (v := .bool _) rfl rfl rfl rfl) rfl (d_w rfl (fun _ => zAt rfl rfl) rfl ?_)
  refine zBe rfl (zAh rfl rfl rfl) rfl (fun _ => (zAx rfl rfl)) ?_
  refine zBh rfl ?_
  refine zAu (ps := [(0, _),(1, _),(2, _)]) (pv := [(0, .int _ _),(1, .int _ _),(2, .int _ _)]) (cs := [_,_,_]) (zAh rfl rfl rfl) rfl rfl (fun w => Try_LQ_fb5 _ _ _ w) gq (fun jG jH gt => ?_)
  refine zAd (qn ⟨gt.tail.tail, ?_⟩)
  refine zBh rfl ?_
  refine zA4 (zAh rfl rfl rfl) call27 rfl rfl rfl rfl (zEo (c27 _ _ [1,3,4] [1,3,4] _ _ (by decide) (Sl.top hr2).cons.cons.app.app.cons.cons (zBb (i := 0) (rows := [[_], [_], [_]]) rfl (by simp) rfl) gt) (by decide)) ?_
  rintro _ jI ⟨rfl, gd⟩
  refine zAd (qn ⟨gd.tail.tail, ?_⟩)
  refine d_w rfl (fun _ => zA5 (v := .bool _) rfl rfl rfl rfl) rfl (d_w rfl (fun _ => zAt rfl rfl) rfl ?_)
  refine zAz rfl (zAh rfl rfl rfl) rfl gd.tail.tail (fun _ hq => (zA2 (vs := [_,_]) isAgg36 sizeOf36 hq.drop.drop.tail rfl rfl hx14)) ?_
  refine zBh rfl ?_
  refine zA4 (zAh rfl rfl rfl) call38 rfl rfl rfl rfl (c38 _ _ gd) ?_
  rintro _ jJ ⟨rfl, ge⟩
  refine zAd (qn ⟨ge.tail.tail, ?_⟩)
  refine zBe rfl (zAh rfl rfl rfl) rfl (fun _ => (zFt (l := [_,_]) (m := [_,_]) eqGuardType36 zE7 (by first | omega | rfl | (simp only [zL] <;> omega)) (by first | omega | rfl | (simp only [zL] <;> omega)) rfl rfl rfl rfl rfl rfl)) ?_
  refine d_w rfl (fun _ => zA5 (v := .bool _) rfl rfl rfl rfl) rfl (d_w rfl (fun _ => zAt rfl rfl) rfl ?_)
  refine zC6 (fun gf => ?_) (fun gf => ?_)
  ·
   try simp only [zS] at gf
   refine zAz rfl (zAh rfl rfl rfl) rfl ge.tail.tail (fun _ hq => (zA2 (vs := [_,_]) isAgg36 sizeOf36 hq.drop.drop rfl rfl hx16)) ?_
   refine zBh rfl ?_
   refine zA4 (zAh rfl rfl rfl) call38 rfl rfl rfl rfl (c38 _ _ ge) ?_
   rintro _ jK ⟨rfl, gu⟩
   refine zAd (qn ⟨gu.tail.tail, ?_⟩)
   refine zBe rfl (zAh rfl rfl rfl) rfl (fun _ => (zFt (l := [_,_]) (m := [_,_]) eqGuardType36 zE7 (by first | omega | rfl | (simp only [zL] <;> omega)) (by first | omega | rfl | (simp only [zL] <;> omega)) rfl rfl rfl rfl rfl rfl)) ?_
   refine d_w rfl (fun _ => zA5 (v := .bool _) rfl rfl rfl rfl) rfl (d_w rfl (fun _ => zAt rfl rfl) rfl ?_)
   refine zC6 (fun gg => ?_) (fun gg => ?_)
   ·
    try simp only [zS] at gg
    refine zBe rfl (zAh rfl rfl rfl) rfl (fun _ => (zAx rfl rfl)) ?_
    refine zBh rfl ?_
    refine zAu (ps := [(0, _)]) (pv := [(0, .int _ _)]) (cs := [_]) (zAh rfl rfl rfl) rfl rfl (fun w => Try_LQ_fb7 _ w) gu (fun jL jM gv => ?_)
    refine zAd (qn ⟨gv.tail.tail.tail, ?_⟩)
    refine zBh rfl ?_
    refine zA4 (zAh rfl rfl rfl) call27 rfl rfl rfl rfl (zEo (c27 _ _ [1] [1] _ _ (by decide) (Sl.top hr3).app.cons.cons.cons (zBb (i := 0) (rows := [[_]]) rfl (by simp) rfl) gv) (by decide)) ?_
    rintro _ jN ⟨rfl, gw⟩
    refine zAd (qn ⟨gw.tail.tail.tail, ?_⟩)
    refine d_w rfl (fun _ => zA5 (v := .bool _) rfl rfl rfl rfl) rfl (d_w rfl (fun _ => zAt rfl rfl) rfl ?_)
    refine zBe rfl (zAh rfl rfl rfl) rfl (fun _ => (zAy rfl rfl)) ?_
    refine zBe rfl (zAh rfl rfl rfl) rfl (fun _ => (zCa rfl rfl rfl rfl)) ?_
    refine d_w rfl (fun _ => zA5 (v := .bool _) rfl rfl rfl rfl) rfl (d_w rfl (fun _ => zAt rfl rfl) rfl ?_)
    refine zBe rfl (zAh rfl rfl rfl) rfl (fun _ => (zAy rfl rfl)) ?_
    refine zBe rfl (zAh rfl rfl rfl) rfl (fun _ => (zCa rfl rfl rfl rfl)) ?_
    refine d_w rfl (fun _ => zA5 (v := .bool _) rfl rfl rfl rfl) rfl (d_w rfl (fun _ => zAt rfl rfl) rfl ?_)
    refine zBe rfl (zAh rfl rfl rfl) rfl (fun _ => (zAx rfl rfl)) ?_
    refine zBh rfl ?_
    refine zAu (ps := [(0, _)]) (pv := [(0, .int _ _)]) (cs := [_]) (zAh rfl rfl rfl) rfl rfl (fun w => Try_LQ_fb7 _ w) gw (fun jO jP gx => ?_)
    refine zAd (qn ⟨gx.tail.tail.tail.tail, ?_⟩)
    refine zBh rfl ?_
    refine zA4 (zAh rfl rfl rfl) call27 rfl rfl rfl rfl (zEo (c27 _ _ [1] [1] _ _ (by decide) (Sl.top hr4).cons.cons.cons.cons (zBb (i := 0) (rows := [[_]]) rfl (by simp) rfl) gx) (by decide)) ?_
    rintro _ jQ ⟨rfl, gy⟩
    refine zAd (qn ⟨gy.tail.tail.tail.tail, ?_⟩)
    refine d_w rfl (fun _ => zA5 (v := .bool _) rfl rfl rfl rfl) rfl (d_w rfl (fun _ => zAs rfl rfl) rfl ?_)
    refine zBm ?_
    refine zAc (hN _ _ (zA8 (zBa (l := [.tmp 0]) (vs := [_]) rfl ⟨⟨rfl, (rfl : _ = Value.bool _)⟩, trivial⟩ ?_)))
    exact ⟨rfl, (St.cast hZ gy.tail.tail.tail.tail.drop.drop.tail.tail.drop.drop).tail.tail.tail.drop.drop.drop⟩
   exfalso; simp at gg
  exfalso; simp at gf

end Go.Proofs.Uc
set_option maxRecDepth 20000
namespace Go.Proofs.Uc
open Go.Proofs.Tryz
open Go.Rt Go.Rt.Cm
open Go.Rt.Ha (felt spanL upto zBv listL bit Bunch zB8 zCi zBx zB2 zCg zCf zBu)
attribute [local irreducible] WL WC Con Yd At Ats Sl Agree DW
theorem Try_LR_fb5 (x0 : ByteArray) (x1 : ByteArray) (x2 : ByteArray) (x3 : ByteArray) (w : World) : (Instr.buildSlice 51 4 [(0, .string x0),(1, .string x1),(2, .string x2),(3, .string x3)].toArray).run Tryz.prog w = .ok (.slice (some ⟨w.heap.size, 0, none⟩) 4 4) (w.alloc (Go.Rt.blk 9 [.string x0, .string x1, .string x2, .string x3])) := by kernel_rfl
theorem Try_LR_fb6 (x0 : Option Addr) (l0 c0 : Nat) (w : World) : (Instr.build 56 [(0, .slice x0 l0 c0)].toArray).run Tryz.prog w = .ok (.agg #[.slice x0 l0 c0, .slice none 0 0, .slice none 0 0, .slice none 0 0, .slice none 0 0]) w := by kernel_rfl
theorem Try_LR_fb7 (x0 : Int) (x1 : Int) (x2 : Int) (w : World) : (Instr.build 100 [(1, .agg #[.int .i64 x0, .int .i64 x1]),(2, .int .i64 x2)].toArray).run Tryz.prog w = .ok (.agg #[.slice none 0 0, .int .i64 x0, .int .i64 x1, .int .i64 x2]) w := by kernel_rfl
theorem Try_LR_fb8  (w : World) : (Instr.buildSlice 22 0 [].toArray).run Tryz.prog w = .ok (.slice (some ⟨w.heap.size, 0, none⟩) 0 0) (w.alloc (Go.Rt.blk 3 [])) := by kernel_rfl
theorem Try_LR_fb9 (x0 : Int) (w : World) : (Instr.buildSlice 22 1 [(0, .int .i64 x0)].toArray).run Tryz.prog w = .ok (.slice (some ⟨w.heap.size, 0, none⟩) 1 1) (w.alloc (Go.Rt.blk 3 [.int .i64 x0])) := by kernel_rfl
theorem Try_LR_fb10  (w : World) : (Instr.buildSlice 54 0 [].toArray).run Tryz.prog w = .ok (.slice (some ⟨w.heap.size, 0, none⟩) 0 0) (w.alloc (Go.Rt.blk 102 [])) := by kernel_rfl
theorem Try_info102 : Tryz.prog.info? 102 = some Tryz.t102 := by kernel_rfl
theorem Try_LR_fb12 (x0 : Int) (x1 : Int) (w : World) : (Instr.build 102 [(1, .int .i64 x0),(2, .int .i64 x1)].toArray).run Tryz.prog w = .ok (.agg #[.int .i64 0, .int .i64 x0, .int .i64 x1]) w := by kernel_rfl
theorem Try_LR_fb13 (x0 : Int) (x1 : Int) (x2 : Int) (w : World) : (Instr.buildSlice 54 1 [(0, .agg #[.int .i64 x0, .int .i64 x1, .int .i64 x2])].toArray).run Tryz.prog w = .ok (.slice (some ⟨w.heap.size, 0, none⟩) 1 1) (w.alloc (Go.Rt.blk 102 [.int .i64 x0, .int .i64 x1, .int .i64 x2])) := by kernel_rfl
theorem Try_LR_fb14 (x0 : Option Addr) (l0 c0 : Nat) (x1 : Int) (x2 : Int) (x3 : Int) (w : World) : (Instr.buildSlice 52 1 [(0, .agg #[.slice x0 l0 c0, .int .i64 x1, .int .i64 x2, .int .i64 x3])].toArray).run Tryz.prog w = .ok (.slice (some ⟨w.heap.size, 0, none⟩) 1 1) (w.alloc (Go.Rt.blk 100 [.slice x0 l0 c0, .int .i64 x1, .int .i64 x2, .int .i64 x3])) := by kernel_rfl
theorem own_nonil {v : Value} {t : TypeId} {sz n : Nat} {xs : List Value} {B : List (Nat × Obj)} (h : Rt.Own v t sz n xs B) {a : Option Addr} {m c : Nat} (h1 : v = .slice a m c) (ha : a = none) : c = 0 := by
  rcases h.2 with ⟨h3, _⟩ | ⟨b, cap, cs, h3, _⟩
  · rw [h3] at h1; injection h1 with _ _ h5; exact h5.symm
  · rw [h3] at h1; injection h1 with h5; rw [ha] at h5; cases h5
theorem own_clms {w0 : World} {v : Value} {t : TypeId} {l : List Clm} {B : List (Nat × Obj)} (h : Rt.Own v t 3 l.length (crows l).flatten B) : ∃ a c, v = .slice a l.length c ∧ Sl w0 B a 3 (crows l) ∧ (a = none → c = 0) := by
  obtain ⟨a, c, h1, h2⟩ := Rt.Own.sl (w0 := w0) h (rows := crows l) (by intro row hr; obtain ⟨x, _, rfl⟩ := List.mem_map.1 hr; rfl) (by simp [crows]) rfl []
  rw [List.append_nil] at h2
  refine ⟨a, c, ?_, h2, fun ha => own_nonil h h1 ha⟩
  rw [h1]; simp [crows]
theorem zI4 {w0 : World} {v : Value} {t : TypeId} {l : List Int} {B : List (Nat × Obj)} (h : Rt.Own v t 1 l.length (iv l) B) : ∃ a c, v = .slice a l.length c ∧ Sl w0 B a 1 (l.map fun x => [Value.int .i64 x]) ∧ (a = none → c = 0) := by
  obtain ⟨a, c, h1, h2⟩ := zE6 (w0 := w0) h rfl []
  rw [List.append_nil] at h2
  exact ⟨a, c, h1, h2, fun ha => own_nonil h h1 ha⟩
theorem rep_snoc (i : Nat) : (List.replicate (i + 1) (60 : Int)) = (List.replicate i (60 : Int)) ++ [60] := by rw [List.replicate_succ']
theorem ran_snoc (i : Nat) : ((List.range (i + 1)).map fun q => ((q : Nat) : Int)) = ((List.range i).map fun q => ((q : Nat) : Int)) ++ [((i : Nat) : Int)] := by rw [List.range_succ, List.map_append]; rfl
theorem clm_snoc (i : Nat) : ((List.range (i + 1)).map fun q => (⟨0, ((q : Nat) : Int), ((q : Nat) : Int)⟩ : Clm)) = ((List.range i).map fun q => (⟨0, ((q : Nat) : Int), ((q : Nat) : Int)⟩ : Clm)) ++ [⟨0, ((i : Nat) : Int), ((i : Nat) : Int)⟩] := by rw [List.range_succ, List.map_append]; rfl
theorem iv_flat (l : List Int) : (l.map fun x => [Value.int .i64 x]).flatten = iv l := by induction l <;> simp_all
theorem own_num1 {v : Value} {t : TypeId} {l : List Int} {d : Int} {B : List (Nat × Obj)} (h : Rt.Own v t 1 (0 + l.length + 1) ([] ++ (l.map fun x => [Value.int .i64 x]).flatten ++ [[Value.int .i64 d]].flatten) B) : Rt.Own v t 1 (l ++ [d]).length (iv (l ++ [d])) B := by
  rw [iv_flat] at h
  simpa [Nat.add_comm] using h
theorem own_clm1 {v : Value} {t : TypeId} {l : List Clm} {d : Clm} {B : List (Nat × Obj)} (h : Rt.Own v t 3 (0 + l.length + 1) ([] ++ (crows l).flatten ++ [[Value.int .i64 d.lot, .int .i64 d.against, .int .i64 d.day]].flatten) B) : Rt.Own v t 3 (l ++ [d]).length (crows (l ++ [d])).flatten B := by
  simpa [crows, Clm.cells, Nat.add_comm] using h
theorem num_one (l : List Int) : ∀ row ∈ (l.map fun x => [Value.int .i64 x]), ∀ u ∈ row, u.oneCell' = true := by
  intro row hr u hu; obtain ⟨x, _, rfl⟩ := List.mem_map.1 hr; simp at hu; subst hu; rfl
theorem clm_one (l : List Clm) : ∀ row ∈ crows l, ∀ u ∈ row, u.oneCell' = true := by
  intro row hr u hu; obtain ⟨x, _, rfl⟩ := List.mem_map.1 hr; simp [Clm.cells] at hu; rcases hu with rfl | rfl | rfl <;> rfl
theorem file_end {w0 w : World} {x y : Nat × Obj} {U R C F : List (Nat × Obj)} (h : St w0 w (x :: y :: (U ++ (R ++ (C ++ F))))) : St w0 w ((x :: y :: (U ++ (R ++ C))) ++ F) := by simpa only [List.append_assoc, List.cons_append] using h
theorem c16 {w0 w : World} {F : List (Nat × Obj)} (lo hi : Int) (hs : St w0 w F) :
  Con Tryz.prog 16 [.int .i64 4, .agg #[.int .i64 lo, .int .i64 hi]] w fun v w' => ∃ (B : List (Nat × Obj)) (p : AtF), v = .agg ((fileT lo hi).cells p).toArray ∧ FIn w0 B (fileT lo hi) p ∧ St w0 w' (B ++ F) := by
  refine zAo (n := 48) func16 rfl rfl (zNl rfl) ?_
  refine zAf (fun K2 gt => (zAb (zCj (v := .agg #[.int _ _, .int _ _]) (cs := [_,_]) zAa rfl rfl rfl hs (fun b3 w4 gu => ?_))))
  refine zA1 (cs := [_,_,_,_,_]) zAa zeroValue56 rfl gu (fun b6 w7 gv => ?_)
  refine zAd (zAc (gt _ _ (zAf (fun j0 gw => (zAb (zAu (ps := [(0, _),(1, _),(2, _),(3, _)]) (pv := [(0, .string _),(1, .string _),(2, .string _),(3, .string _)]) (cs := [_,_,_,_]) zAa rfl rfl (fun w => Try_LR_fb5 _ _ _ _ w) gv (fun g8 j1 gx => ?_)))))))
  refine zA6 rfl rfl (w_p (zIz (l' := 0) (h' := 4) underlying51 sizeOf9 rfl rfl rfl ⟨rfl, _,_, rfl, rfl⟩ (by omega) (by omega)) rfl (w_p (zB1 (ps := [(0, _)]) (pv := [(0, .slice _ _ _)]) rfl rfl (fun w => Try_LR_fb6 _ _ _ w)) rfl ?_))
  refine zA1 (cs := [_,_,_,_,_]) zAa zeroValue56 rfl gx (fun gy j3 gz => ?_)
  refine zBj 0 (.agg #[.slice _ _ _, .slice _ _ _, .slice _ _ _, .slice _ _ _, .slice _ _ _]) [_,_,_,_,_] sizeOf56 gz (fun j4 gh => ?_)
  refine zAd (zAc (gw _ _ (zAf (fun j5 gA => (zAb (w_p (zA2 (vs := [_,_]) isAgg36 sizeOf36 gh rfl rfl (aow 3 [_,_])) rfl (w_p (zB1 (ps := [(1, _),(2, _)]) (pv := [(1, .agg #[.int _ _, .int _ _]),(2, .int _ _)]) rfl rfl (fun w => Try_LR_fb7 _ _ _ w)) rfl ?_)))))))
  refine zA1 (cs := [_,_,_,_]) zAa zeroValue100 rfl gh (fun gB j6 gC => ?_)
  refine zBj 0 (.agg #[.slice _ _ _, .int _ _, .int _ _, .int _ _]) [_,_,_,_] sizeOf100 gC (fun j7 gD => ?_)
  refine zAd (zAc (gA _ _ (zAf (fun j8 gE => (zAf (fun j9 gF => (zAb (zBi rfl rfl (zAd (zAc (gF _ _ (zAq ?_))))))))))))
  refine zB6 [7,14,15,16,17,18,19,20,21,22,23,24,25,26,27,28,29,30,31,32,33,34,35,36,37,38,39,40,41,42,43] [7] (fun kk vs w => ∃ (i : Nat) (vR vU vC : Value) (UB RB CB : List (Nat × Obj)), vs = [.int .i64 (i : Int)] ∧ i ≤ 4 ∧ kk = 4 - i ∧ Rt.Own vU 3 1 (List.replicate i (60 : Int)).length (iv (List.replicate i (60 : Int))) UB ∧ Rt.Own vR 3 1 ((List.range i).map fun q => ((q : Nat) : Int)).length (iv ((List.range i).map fun q => ((q : Nat) : Int))) RB ∧ Rt.Own vC 102 3 ((List.range i).map fun q => (⟨0, ((q : Nat) : Int), ((q : Nat) : Int)⟩ : Clm)).length (crows ((List.range i).map fun q => (⟨0, ((q : Nat) : Int), ((q : Nat) : Int)⟩ : Clm))).flatten CB ∧ St w0 w ((gB, blk 100 [vR, .int .i64 lo, .int .i64 hi, .int .i64 7]) :: (gy, blk 56 [.slice (some ⟨g8,0, none⟩) 4 4, vU, .slice none 0 0, .slice none 0 0, vC]) :: (g8, blk 9 ([nmS [112,46,48], nmS [112,46,49], nmS [112,46,50], nmS [112,46,51]].map .string)) :: (b6, blk 56 [.slice none 0 0, .slice none 0 0, .slice none 0 0, .slice none 0 0, .slice none 0 0]) :: (b3, blk 36 [.int .i64 lo, .int .i64 hi]) :: (UB ++ (RB ++ (CB ++ F))))) (4) ?_ ?_
  ·
   exact ⟨0, _,_,_, [], [], [], rfl, by omega, by omega, zEm 3 1, zEm 3 1, zEm 102 3, gD⟩
  intro k vs μ ja hI jb gG
  clear hs
  obtain ⟨i, vR, vU, vC, UB, RB, CB, rfl, hia, rfl, hU, hR, hC, hs⟩ := hI
  refine zAf (fun jc gH => (zAf (fun jd gI => (zAb (zA6 rfl rfl (zA6 rfl rfl (w_p (zCp rfl rfl rfl rfl) rfl (zAd (zAc (gI _ _ (zAr rfl rfl (fun g9 => ?_) (fun g9 => ?_))))))))))))
  ·
   try simp only [zS] at g9
   refine zAn (zAc (gH _ _ (zAf (fun je gJ => (zAq ?_)))))
   refine zAf (fun jf gK => ?_)
   obtain ⟨aU, cU, rfl, hslU, hnU⟩ := zI4 (w0 := w0) hU
   obtain ⟨aR, cR, rfl, hslR, hnR⟩ := zI4 (w0 := w0) hR
   obtain ⟨aC, cC, rfl, hslC, hnC⟩ := own_clms (w0 := w0) hC
   refine zAb (zAu (ps := []) (pv := []) (cs := []) zAa rfl rfl (fun w => Try_LR_fb8  w) hs (fun jg jh gi => ?_))
   refine w_p (zAe (o := 1) (i := 1) underlying56 rfl sizeOf22 rfl rfl rfl) rfl (w_p (zAg isAgg22 gi rfl rfl (aow 2 [_])) rfl ?_)
   refine zC7 (X := ([])) (B := [_]) (rows := ((List.replicate i (60 : Int)).map fun x => [Value.int .i64 x])) (sz := 1) (bytes := 8) zAa underlying22 zC3 rfl rfl rfl rfl rfl rfl rfl rfl rfl gi zHm (Sl.top hslU).cons.cons.cons.cons.cons.cons (by simp) hnU (num_one _) (by simp only [maxLen, List.length_replicate, List.length_map, List.length_range]; omega) (by simp only [List.length_replicate, List.length_map, List.length_range]; omega) (fun ji jj gj gL ga => ?_)
   replace ga := (show St _ _ (gj ++ (_ :: _ :: _ :: _ :: _ :: UB ++ (RB ++ (CB ++ (F))))) from ga)
   refine zAu (ps := [(0, _)]) (pv := [(0, .int _ _)]) (cs := [_]) zAa rfl rfl (fun w => Try_LR_fb9 _ w) ga (fun jk jl gM => ?_)
   refine zC7 (X := (_ :: [])) (B := gj) (rows := [[_]]) (sz := 1) (bytes := 8) zAa underlying22 zC3 rfl rfl rfl rfl rfl rfl rfl rfl rfl gM gL (zBb (i := 0) rfl (by simp) rfl) rfl (by simp) (by simp [Value.oneCell']) (by simp only [maxLen, List.length_replicate, List.length_map, List.length_range]; omega) (by simp only [List.length_replicate, List.length_map, List.length_range]; omega) (fun jm jo g0 g5 gc => ?_)
   replace gc := (show St _ _ (_ :: g0 ++ (_ :: _ :: _ :: _ :: _ :: UB ++ (RB ++ (CB ++ (F))))) from gc)
   have gN := (show St _ _ (_ :: _ :: _ :: _ :: _ :: (g0 ++ ((RB ++ ((CB ++ (F))))))) from St.pk [[_], g0, [_], [_], [_], [_], [_], UB, RB, CB] [2,3,4,5,6,1,8,9] gc)
   replace g5 := own_num1 g5
   obtain ⟨aU, cU, rfl⟩ := Rt.Own.slice g5
   have hU2 := g5
   refine w_p (zAe (o := 1) (i := 1) underlying56 rfl sizeOf22 rfl rfl rfl) rfl (zBj 1 (.slice _ _ _) [_] sizeOf22 gN (fun jp gO => ?_))
   refine zAd (zAc (gK _ _ (zAf (fun jq gP => (zAb (zAu (ps := []) (pv := []) (cs := []) zAa rfl rfl (fun w => Try_LR_fb8  w) gO (fun jr js gk => ?_)))))))
   refine w_p (zAe (o := 0) (i := 0) underlying100 rfl sizeOf22 rfl rfl rfl) rfl (w_p (zAg isAgg22 gk rfl rfl (aow 1 [_])) rfl ?_)
   refine zC7 (X := ([])) (B := [_]) (rows := (((List.range i).map fun q => ((q : Nat) : Int)).map fun x => [Value.int .i64 x])) (sz := 1) (bytes := 8) zAa underlying22 zC3 rfl rfl rfl rfl rfl rfl rfl rfl rfl gk zHm (Sl.top hslR).app.cons.cons.cons.cons.cons.cons (by simp) hnR (num_one _) (by simp only [maxLen, List.length_replicate, List.length_map, List.length_range]; omega) (by simp only [List.length_replicate, List.length_map, List.length_range]; omega) (fun jt ju gm gQ gd => ?_)
   replace gd := (show St _ _ (gm ++ (_ :: _ :: _ :: _ :: _ :: g0 ++ (RB ++ (CB ++ (F))))) from gd)
   refine zA6 rfl rfl (zAu (ps := [(0, _)]) (pv := [(0, .int _ _)]) (cs := [_]) zAa rfl rfl (fun w => Try_LR_fb9 _ w) gd (fun jv jw gR => ?_))
   refine zC7 (X := (_ :: [])) (B := gm) (rows := [[_]]) (sz := 1) (bytes := 8) zAa underlying22 zC3 rfl rfl rfl rfl rfl rfl rfl rfl rfl gR gQ (zBb (i := 0) rfl (by simp) rfl) rfl (by simp) (by simp [Value.oneCell']) (by simp only [maxLen, List.length_replicate, List.length_map, List.length_range]; omega) (by simp only [List.length_replicate, List.length_map, List.length_range]; omega) (fun jx jy g3 g6 ge => ?_)
   replace ge := (show St _ _ (_ :: g3 ++ (_ :: _ :: _ :: _ :: _ :: g0 ++ (RB ++ (CB ++ (F))))) from ge)
   have gS := (show St _ _ (_ :: _ :: _ :: _ :: _ :: (g3 ++ ((g0 ++ ((CB ++ (F))))))) from St.pk [[_], g3, [_], [_], [_], [_], [_], g0, RB, CB] [2,3,4,5,6,1,7,9] ge)
   replace g6 := own_num1 g6
   obtain ⟨aR, cR, rfl⟩ := Rt.Own.slice g6
   have hR2 := g6
   refine w_p (zAe (o := 0) (i := 0) underlying100 rfl sizeOf22 rfl rfl rfl) rfl (zBj 0 (.slice _ _ _) [_] sizeOf22 gS (fun jz gT => ?_))
   refine zAd (zAc (gP _ _ (zAb (zAu (ps := []) (pv := []) (cs := []) zAa rfl rfl (fun w => Try_LR_fb10  w) gT (fun jA jB gn => ?_)))))
   refine w_p (zAe (o := 4) (i := 4) underlying56 rfl sizeOf54 rfl rfl rfl) rfl (w_p (zAg isAgg54 gn rfl rfl (aow 2 [_])) rfl ?_)
   refine zC7 (X := ([])) (B := [_]) (rows := (crows ((List.range i).map fun q => (⟨0, ((q : Nat) : Int), ((q : Nat) : Int)⟩ : Clm)))) (sz := 3) (bytes := 24) zAa underlying54 Try_info102 rfl rfl rfl rfl rfl rfl rfl rfl rfl gn zHm (Sl.top hslC).app.app.cons.cons.cons.cons.cons.cons (by simp [crows]) hnC (clm_one _) (by simp only [maxLen, List.length_replicate, List.length_map, List.length_range]; omega) (by simp only [List.length_replicate, List.length_map, List.length_range]; omega) (fun jC jD go gU gf => ?_)
   replace gf := (show St _ _ (go ++ (_ :: _ :: _ :: _ :: _ :: g3 ++ (g0 ++ (CB ++ (F))))) from gf)
   refine zA6 rfl rfl (zA6 rfl rfl (w_p (zB1 (ps := [(1, _),(2, _)]) (pv := [(1, .int _ _),(2, .int _ _)]) rfl rfl (fun w => Try_LR_fb12 _ _ w)) rfl (zAu (ps := [(0, _)]) (pv := [(0, .agg #[.int _ _, .int _ _, .int _ _])]) (cs := [_,_,_]) zAa rfl rfl (fun w => Try_LR_fb13 _ _ _ w) gf (fun jE jF gV => ?_))))
   refine zC7 (X := (_ :: [])) (B := go) (rows := [[_,_,_]]) (sz := 3) (bytes := 24) zAa underlying54 Try_info102 rfl rfl rfl rfl rfl rfl rfl rfl rfl gV gU (zBb (i := 0) rfl (by simp) rfl) rfl (by simp) (by simp [Value.oneCell']) (by simp only [maxLen, List.length_replicate, List.length_map, List.length_range]; omega) (by simp only [List.length_replicate, List.length_map, List.length_range]; omega) (fun jG jH g4 g7 gg => ?_)
   replace gg := (show St _ _ (_ :: g4 ++ (_ :: _ :: _ :: _ :: _ :: g3 ++ (g0 ++ (CB ++ (F))))) from gg)
   have gW := (show St _ _ (_ :: _ :: _ :: _ :: _ :: (g4 ++ ((g3 ++ ((g0 ++ (F))))))) from St.pk [[_], g4, [_], [_], [_], [_], [_], g3, g0, CB] [2,3,4,5,6,1,7,8] gg)
   replace g7 := own_clm1 (d := ⟨0, ((i : Nat) : Int), ((i : Nat) : Int)⟩) g7
   obtain ⟨aC, cC, rfl⟩ := Rt.Own.slice g7
   have gX := g7
   refine w_p (zAe (o := 4) (i := 4) underlying56 rfl sizeOf54 rfl rfl rfl) rfl (zBj 1 (.slice _ _ _) [_] sizeOf54 gW (fun jI gY => ?_))
   refine zAd (zAi (zAc (gJ _ _ (zAb (zA6 rfl rfl (w_p (zBo rfl rfl rfl rfl (by omega) (by omega)) rfl (zBw rfl rfl (zAd (zAc (gG _ _ (nxI (4 - (i + 1)) (by omega) ?_)))))))))))
   have gZ := (show St _ _ (_ :: _ :: _ :: _ :: _ :: (g0 ++ ((g3 ++ ((g4 ++ (F))))))) from St.pk [[_], [_], [_], [_], [_], g4, g3, g0] [0,1,2,3,4,7,6,5] gY)
   exact ⟨i + 1, _,_,_,_,_,_, rfl, by omega, by omega, by rw [rep_snoc]; exact hU2, by rw [ran_snoc]; exact hR2, by rw [clm_snoc]; exact gX, gZ⟩
  try simp only [zS] at g9
  refine zBt (zAj (zAj (zAv (zAc (gE _ _ (zAf (fun jJ hD => ?_)))))))
  have hi4 : i = 4 := by omega
  subst hi4
  obtain ⟨aU, cU, rfl, hslU, hnU⟩ := zI4 (w0 := w0) hU
  obtain ⟨aR, cR, rfl, hslR, hnR⟩ := zI4 (w0 := w0) hR
  obtain ⟨aC, cC, rfl, hslC, hnC⟩ := own_clms (w0 := w0) hC
  refine zAb (w_p (zA2 (vs := [_,_,_,_]) isAgg100 sizeOf100 hs rfl rfl (aow 0 [_,_,_,_])) rfl ?_)
  refine zAu (ps := [(0, _)]) (pv := [(0, .agg #[.slice _ _ _, .int _ _, .int _ _, .int _ _])]) (cs := [_,_,_,_]) zAa rfl rfl (fun w => Try_LR_fb14 _ _ _ _ _ _ w) hs (fun hN jK hP => ?_)
  refine w_p (zAe (o := 2) (i := 2) underlying56 rfl sizeOf52 rfl rfl rfl) rfl (zBj 2 (.slice _ _ _) [_] sizeOf52 hP (fun jL gp => ?_))
  refine zAd (zAc (hD _ _ (zAf (fun jM hX => (zAb (w_p (zA2 (vs := [_,_,_,_,_]) isAgg56 sizeOf56 gp rfl rfl (aow 2 [_,_,_,_,_])) rfl ?_))))))
  refine zBj 4 (.agg #[.slice _ _ _, .slice _ _ _, .slice _ _ _, .slice _ _ _, .slice _ _ _]) [_,_,_,_,_] sizeOf56 gp (fun jN gq => ?_)
  refine zAd (zAc (hX _ _ (zA8 (zBa (l := [.cell 4 56]) (vs := [_]) rfl ⟨⟨rfl, _, rfl, zCv (vs := [_,_,_,_,_]) isAgg56 sizeOf56 gq (aow 4 [_,_,_,_,_])⟩, trivial⟩ ?_))))
  have hY := (show St _ _ (_ :: _ :: (UB ++ ((RB ++ ((CB ++ (F))))))) from St.pk [[_], [_], [_], [_], [_], [_], UB, RB, CB] [0,3,6,7,8] gq)
  refine ⟨_ :: _ :: (UB ++ (RB ++ CB)), ⟨some ⟨g8,0, none⟩, 4, aU, cU, some ⟨hN,0, none⟩, 1, none, 0, aC, cC, fun _ => aR, fun _ => cR⟩, rfl, ⟨?_, ?_, ?_, ?_, ?_, ?_, by show 4 ≤ 4; decide⟩, file_end hY⟩
  · exact zBb (i := 1) rfl (by intro row h; obtain ⟨q, _, rfl⟩ := List.mem_map.1 h; rfl) rfl
  · exact Sl.cons (Sl.cons (Sl.top hslU))
  · exact zBb (i := 0) rfl (by intro row h; obtain ⟨q, _, rfl⟩ := List.mem_map.1 h; rfl) rfl
  · intro i hi
    have hi0 : i = 0 := by have h1 : i < 1 := hi; omega
    subst hi0
    exact Sl.cons (Sl.cons (Sl.app (Sl.top hslR)))
  · exact Sl.nil _ _
  · exact Sl.cons (Sl.cons (Sl.app (Sl.app hslC)))

end Go.Proofs.Uc
