/- Own texts of this claim, joined. No conditions. -/
import Derived.Test.YtjhhifdfgeccoaaGreatHTopTurneda
import Derived.Test.YtjhhifdfgeccoaaGreatHTopTurnedb
import Derived.Test.YtjhhifdfgeccoaaGreatHTopTurnedc
import Derived.Test.YtjhhifdfgeccoaaGreatHTopTurnedd
import Derived.Test.YtjhhifdfgeccoaaGreatHTopTurnede
import Derived.Test.YtjhhifdfgeccoaaGreatHTopTurnedf
import Derived.Test.YtjhhifdfgeccoaaGreatHTopTurnedg
import Derived.Test.YtjhhifdfgeccoaaGreatHTopTurnedh
set_option linter.unusedVariables false
set_option linter.unusedSimpArgs false
set_option maxRecDepth 20000
namespace Go.Proofs.Uc
open Go.Proofs.Tryz
open Go.Rt Go.Rt.Cm
open Go.Rt.Ha (felt spanL upto zBv listL bit Bunch zB8 zCi zBx zB2 zCg zCf zBu)
attribute [local irreducible] WL WC Con Yd At Ats Sl Agree DW
theorem zGv (x0 : Go.Fn) (a0 c0 : Array Value) (w : World) : (Instr.build 176 [(0, .func x0 a0 c0)].toArray).run Tryz.prog w = .ok (.agg #[.func x0 a0 c0]) w := by kernel_rfl
theorem Try_LC_fb2 (x0 : Go.Fn) (a0 c0 : Array Value) (x1 : Go.Fn) (a1 c1 : Array Value) (x2 : Go.Fn) (a2 c2 : Array Value) (x3 : Go.Fn) (a3 c3 : Array Value) (w : World) : (Instr.build 177 [(0, .agg #[.func x0 a0 c0]),(1, .agg #[.func x1 a1 c1]),(2, .agg #[.func x2 a2 c2]),(3, .agg #[.func x3 a3 c3])].toArray).run Tryz.prog w = .ok (.agg #[.func x0 a0 c0, .func x1 a1 c1, .func x2 a2 c2, .func x3 a3 c3]) w := by kernel_rfl
theorem Try_LC_fb3 (x0 : Option Addr) (l0 c0 : Nat) (x1 : Option Addr) (l1 c1 : Nat) (x2 : Option Addr) (l2 c2 : Nat) (x3 : Option Addr) (l3 c3 : Nat) (x4 : Option Addr) (l4 c4 : Nat) (x5 : Int) (x6 : Option Nat) (w : World) : (Instr.build 151 [(0, .agg #[.slice x0 l0 c0, .slice x1 l1 c1, .slice x2 l2 c2, .slice x3 l3 c3, .slice x4 l4 c4]),(1, .int .i64 x5),(2, .map x6)].toArray).run Tryz.prog w = .ok (.agg #[.slice x0 l0 c0, .slice x1 l1 c1, .slice x2 l2 c2, .slice x3 l3 c3, .slice x4 l4 c4, .int .i64 x5, .map x6]) w := by kernel_rfl
structure CK (w0 : World) (F : List (Nat × Obj)) (f : File) (p : AtF) (but cb mm : Nat) : Prop where
  i : FIn w0 F f p
  l : Ats w0 F cb 0 [.slice p.ap f.parties.length p.cp, .slice p.au f.until_.length p.cu, .slice p.al f.lots.length p.cl, .slice p.aq f.paps.length p.cq, .slice p.ac f.clms.length p.cc, .int .i64 (but : Int), .map (some mm)]
  ok : f.Ok
  bt : but < 1000
theorem CK.mono {w0 : World} {F F' : List (Nat × Obj)} {f : File} {p : AtF} {but cb mm : Nat} (h : CK w0 F f p but cb mm) (hs : ∀ w, St w0 w F' → St w0 w F) : CK w0 F' f p but cb mm := ⟨h.i.mono hs, h.l.mono hs, h.ok, h.bt⟩
theorem CK.cons {w0 : World} {F : List (Nat × Obj)} {x : Nat × Obj} {f : File} {p : AtF} {but cb mm : Nat} (h : CK w0 F f p but cb mm) : CK w0 (x :: F) f p but cb mm := h.mono fun _ h => h.tail
theorem CK.app {w0 : World} {F B : List (Nat × Obj)} {f : File} {p : AtF} {but cb mm : Nat} (h : CK w0 F f p but cb mm) : CK w0 (B ++ F) f p but cb mm := h.mono fun _ h => h.drop
def sayF : Nat → Value
  | 0 => .func (.func 124) #[] #[]
  | 1 => .func (.func 125) #[] #[]
  | 2 => .func (.func 126) #[] #[]
  | _ => .func (.func 127) #[] #[]
theorem say_at {w0 : World} {L : List (Nat × Obj)} {i b j : Nat} {t : TypeId} (hi : L[i]? = some (b, blk t [sayF 0, sayF 1, sayF 2, sayF 3])) (hj : j < 4) : Ats w0 L b (0 + j * 1) [sayF j] := by
  refine zB9 hi ?_
  match j, hj with
  | 0, _ => rfl
  | 1, _ => rfl
  | 2, _ => rfl
  | 3, _ => rfl
theorem bit0 {but i : Nat} (h : ¬ ((bit but i : Nat) : Int) = 1) : bit but i = 0 := by rcases Go.Rt.Ha.bit01 but i with h2 | h2 <;> omega
theorem bit1 {but i : Nat} (h : ((bit but i : Nat) : Int) = 1) : ¬ bit but i = 0 := by omega
theorem c124 {w0 w : World} {F : List (Nat × Obj)} (a b : Int) (hs : St w0 w F) :
  Con Tryz.prog 124 [.int .i64 a, .int .i64 b] w fun v w' => v = .bool (decide (b ≤ a)) ∧ St w0 w' F := by
  refine zAo (n := 8) func124 rfl rfl (zNl rfl) ?_
  refine zAf (fun K2 g0 => (zAb (zBi rfl rfl (zAd (zAc (g0 _ _ (zAf (fun K4 g3 => (zAb (zA6 rfl rfl (zA6 rfl rfl (w_p (zGw rfl rfl rfl rfl) rfl ?_))))))))))))
  refine w_p (zAs rfl rfl) rfl (zAd (zAc (g3 _ _ (zA8 (zBa (l := [.tmp 4]) (vs := [_]) rfl ⟨⟨rfl, (rfl : _ = Value.bool _)⟩, trivial⟩ ?_)))))
  exact ⟨rfl, hs⟩

theorem c125 {w0 w : World} {F : List (Nat × Obj)} (a b : Int) (hs : St w0 w F) :
  Con Tryz.prog 125 [.int .i64 a, .int .i64 b] w fun v w' => v = .bool (decide (a < b)) ∧ St w0 w' F := by
  refine zAo (n := 8) func125 rfl rfl (zNl rfl) ?_
  refine zAf (fun K2 g0 => (zAb (zBi rfl rfl (zAd (zAc (g0 _ _ (zAf (fun K4 g3 => (zAb (zA6 rfl rfl (zA6 rfl rfl (w_p (zCp rfl rfl rfl rfl) rfl ?_))))))))))))
  refine w_p (zAs rfl rfl) rfl (zAd (zAc (g3 _ _ (zA8 (zBa (l := [.tmp 4]) (vs := [_]) rfl ⟨⟨rfl, (rfl : _ = Value.bool _)⟩, trivial⟩ ?_)))))
  exact ⟨rfl, hs⟩

theorem c126 {w0 w : World} {F : List (Nat × Obj)} (a b : Int) (hs : St w0 w F) :
  Con Tryz.prog 126 [.int .i64 a, .int .i64 b] w fun v w' => v = .bool (decide (a = b)) ∧ St w0 w' F := by
  refine zAo (n := 8) func126 rfl rfl (zNl rfl) ?_
  refine zAf (fun K2 g0 => (zAb (zBi rfl rfl (zAd (zAc (g0 _ _ (zAf (fun K4 g3 => (zAb (zA6 rfl rfl (zA6 rfl rfl (w_p (zCa rfl rfl rfl rfl) rfl ?_))))))))))))
  refine w_p (zAs rfl rfl) rfl (zAd (zAc (g3 _ _ (zA8 (zBa (l := [.tmp 4]) (vs := [_]) rfl ⟨⟨rfl, (rfl : _ = Value.bool _)⟩, trivial⟩ ?_)))))
  exact ⟨rfl, hs⟩

theorem c127 {w0 w : World} {F : List (Nat × Obj)} (a b : Int) (hs : St w0 w F) :
  Con Tryz.prog 127 [.int .i64 a, .int .i64 b] w fun v w' => v = .bool (!decide (a = b)) ∧ St w0 w' F := by
  refine zAo (n := 8) func127 rfl rfl (zNl rfl) ?_
  refine zAf (fun K2 g0 => (zAb (zBi rfl rfl (zAd (zAc (g0 _ _ (zAf (fun K4 g3 => (zAb (zA6 rfl rfl (zA6 rfl rfl (w_p (zCs rfl rfl rfl rfl) rfl ?_))))))))))))
  refine w_p (zAs rfl rfl) rfl (zAd (zAc (g3 _ _ (zA8 (zBa (l := [.tmp 4]) (vs := [_]) rfl ⟨⟨rfl, (rfl : _ = Value.bool _)⟩, trivial⟩ ?_)))))
  exact ⟨rfl, hs⟩

theorem say_con {w0 w : World} {F : List (Nat × Obj)} (a b : Int) {j : Nat} (hj : j < 4) (hs : St w0 w F) : FCon Tryz.prog (sayF j) [.int .i64 a, .int .i64 b] w fun v w' => v = .bool (sayIs j a b) ∧ St w0 w' F := by
  match j, hj with
  | 0, _ => exact zDm call124 (c124 a b hs)
  | 1, _ => exact zDm call125 (c125 a b hs)
  | 2, _ => exact zDm call126 (c126 a b hs)
  | 3, _ => exact zDm call127 (c127 a b hs)
theorem c68 {w0 w : World} {F : List (Nat × Obj)} (f : File) (p : AtF) (but cb mm : Nat) (hk : CK w0 F f p but cb mm) (x : List Int) (hx : In4 f x) (lot : Nat) (hl : lot < f.lots.length) (hs : St w0 w F) :
  Con Tryz.prog 68 [.pointer (some ⟨cb, 0, none⟩), ia x, .int .i64 (lot : Int)] w fun v w' => v = .int .i64 (withP f x lot) ∧ St w0 w' F := by
  refine zAo (n := 21) func68 rfl rfl (zNl rfl) ?_
  have hb := hk.l
  have hll := hk.ok.ll
  have hx4 := hx.1
  have hxl := hx.2 lot hl
  have hlt := (zGc hk.ok hl).turned
  obtain ⟨q, hq⟩ : ∃ q : Nat, x.getD lot 0 = (q : Int) := ⟨(x.getD lot 0).toNat, by omega⟩
  have hq2 : q < (lotAt f lot).route.length := by omega
  obtain ⟨by_, oy, hby, hy⟩ := sl_lot hk.i hl
  obtain ⟨bz, oz, hbz, hz⟩ := zCx (hk.i.r lot hl) hq2
  have hwa := with_at hq hq2
  refine zAf (fun K2 g3 => (zAb (zEi (l := _) zAa rfl rfl rfl hs (fun b3 w4 g4 => ?_))))
  refine zBi rfl rfl (zAd (zAc (g3 _ _ (zAf (fun K7 g5 => (zCq [] [(0,0),(1,0),(2,0),(3,0),(4,1),(5,0),(6,0),(7,0),(8,1),(9,0),(10,0),(11,1),(12,0),(13,1),(14,0)] zB4 (zBk (by kernel_rfl)) g4 (fun w8 g0 => ?_)))))))
  refine d_w rfl (fun _ => zCn rfl rfl) rfl (d_w rfl (fun _ => zB0 rfl rfl) rfl (d_w rfl (fun _ => zAe (o := 0) (i := 0) underlying151 rfl sizeOf56 rfl rfl rfl) rfl (d_w rfl (fun _ => zAe (o := 2) (i := 2) underlying56 rfl sizeOf52 rfl rfl rfl) rfl ?_)))
  refine zAz rfl zAa rfl g0 (fun _ hq => (zCl hby (zAg isAgg52 hq.tail rfl rfl (show Ats _ _ _ _ [_] from Ats.part hb 2 1)))) ?_
  refine d_w rfl (fun _ => zAy rfl rfl) rfl (d_w rfl (fun _ => zA7 underlying52 sizeOf100 rfl rfl rfl rfl (i := lot) rfl hl) rfl (d_w rfl (fun _ => zAe (o := 0) (i := 0) underlying100 rfl sizeOf22 rfl rfl rfl) rfl ?_))
  refine zAz rfl zAa rfl g0 (fun _ hq => (zCl hbz (zAg isAgg22 hq.tail rfl rfl (show Ats _ _ _ _ [_] from Ats.part hy 0 1)))) ?_
  refine d_w rfl (fun _ => zAy rfl rfl) rfl (d_w rfl (fun _ => zCw underlying121 sizeOf3 rfl rfl rfl rfl (i := lot) rfl (by omega)) rfl ?_)
  refine zAz rfl zAa rfl g0 (fun _ hq => (zAg isAgg3 hq rfl rfl (zC9 (i := 0) (j := lot) rfl (by first | omega | rfl | (simp only [hx.1, zL] <;> omega))))) ?_
  refine d_w rfl (fun _ => zA7 underlying22 sizeOf3 rfl rfl rfl rfl (i := q) hq hq2) rfl ?_
  refine zAz rfl zAa rfl g0 (fun _ hq => (zAg isAgg3 hq.tail rfl rfl hz)) ?_
  refine d_w rfl (fun _ => zA0 rfl rfl) rfl ?_
  refine zBm ?_
  refine zAc (g5 _ _ (zA8 (zBa (l := [.tmp 6]) (vs := [_]) rfl ⟨⟨rfl, (rfl : _ = Value.int _ _)⟩, trivial⟩ ?_)))
  exact ⟨congrArg (Value.int .i64) hwa.symm, g0.tail⟩

theorem c115 {w0 w : World} {F : List (Nat × Obj)}  (hs : St w0 w F) :
  Con Tryz.prog 115 [] w fun v w' => v = .agg [sayF 0, sayF 1, sayF 2, sayF 3].toArray ∧ St w0 w' F := by
  refine zAo (n := 6) func115 rfl rfl (zNl rfl) ?_
  refine zAf (fun K2 g3 => (zAb (zA1 (cs := [_,_,_,_]) zAa zeroValue177 rfl hs (fun b3 w4 g4 => ?_))))
  refine zAd (zAc (g3 _ _ (zAf (fun K7 g5 => (zAb (w_p (zB1 (ps := [(0, _)]) (pv := [(0, .func _ _ _)]) rfl rfl (fun w => zGv _ _ _ w)) rfl ?_))))))
  refine w_p (zB1 (ps := [(0, _)]) (pv := [(0, .func _ _ _)]) rfl rfl (fun w => zGv _ _ _ w)) rfl (w_p (zB1 (ps := [(0, _)]) (pv := [(0, .func _ _ _)]) rfl rfl (fun w => zGv _ _ _ w)) rfl ?_)
  refine w_p (zB1 (ps := [(0, _)]) (pv := [(0, .func _ _ _)]) rfl rfl (fun w => zGv _ _ _ w)) rfl (w_p (zB1 (ps := [(0, _),(1, _),(2, _),(3, _)]) (pv := [(0, .agg #[.func _ _ _]),(1, .agg #[.func _ _ _]),(2, .agg #[.func _ _ _]),(3, .agg #[.func _ _ _])]) rfl rfl (fun w => Try_LC_fb2 _ _ _ _ _ _ _ _ _ _ _ _ w)) rfl ?_)
  refine zBj 0 (.agg #[.func _ _ _, .func _ _ _, .func _ _ _, .func _ _ _]) [_,_,_,_] sizeOf177 g4 (fun w8 g0 => ?_)
  refine zAd (zAc (g5 _ _ (zA8 (zBa (l := [.cell 0 177]) (vs := [_]) rfl ⟨⟨rfl, _, rfl, zCv (vs := [_,_,_,_]) isAgg177 sizeOf177 g0 (aow 0 [_,_,_,_])⟩, trivial⟩ ?_))))
  exact ⟨rfl, g0.tail⟩

theorem c89 {w0 w : World} {F : List (Nat × Obj)} (f : File) (p : AtF) (but cb mm : Nat) (hk : CK w0 F f p but cb mm) (x : List Int) (hx : In4 f x) (hs : St w0 w F) :
  Con Tryz.prog 89 [.pointer (some ⟨cb, 0, none⟩), ia x] w fun v w' => v = .bool (soC f but x) ∧ St w0 w' F := by
  refine zAo (n := 70) func89 rfl rfl (zNl rfl) ?_
  have hb := hk.l
  have hbt := hk.bt
  have hf := hk.ok
  have hlp := hf.lp
  have hll := hf.ll
  have hx4 := hx.1
  refine zAf (fun K2 gp => (zAb (zEi (l := _) zAa rfl rfl rfl hs (fun b3 w4 gq => ?_))))
  refine zBi rfl rfl (zAd (zAc (gp _ _ (zAf (fun K7 gt => (zAb (zCo zAa call115 rfl rfl rfl rfl (c115 gq) (fun w9 gu => ?_))))))))
  refine zA1 (cs := [_,_,_,_]) zAa zeroValue177 rfl gu (fun g8 gL gv => ?_)
  refine zBj 0 (.agg #[.func _ _ _, .func _ _ _, .func _ _ _, .func _ _ _]) [_,_,_,_] sizeOf177 gv (fun gM gm => ?_)
  refine zAd (zAc (gt _ _ (zAf (fun gN gw => (zAf (fun gO gx => (zAb (w_p (zCn rfl rfl) rfl (w_p (zB0 rfl rfl) rfl (w_p (zAe (o := 0) (i := 0) underlying151 rfl sizeOf56 rfl rfl rfl) rfl ?_))))))))))
  refine w_p (zAe (o := 3) (i := 3) underlying56 rfl sizeOf53 rfl rfl rfl) rfl (w_p (zAg isAgg53 gm.tail.tail rfl rfl (show Ats _ _ _ _ [_] from Ats.part hb 3 1)) rfl (w_p (zBc underlying53 rfl rfl) rfl (w_p (zBy (v := _) rfl rfl) rfl (zAd (zAc (gx _ _ (zAq ?_)))))))
  refine zB6 [4,6,7,8,9,17,18,19,20,21,22,23,24,25,26,27,28,29,30,31,32,33,34,35,36,37,38,39,40,41,42,43,44,45,46,47,48,49,50,51,52,53,54,55,56,57,58,59,60,61,62,63,64,65,66,67,68,69] [17] (fun kk vs w => ∃ i : Nat, vs = [.int .i64 (i : Int)] ∧ i ≤ f.paps.length ∧ kk = f.paps.length - i ∧ soTo f but x i = true ∧ St w0 w ((g8, blk 177 [sayF 0, sayF 1, sayF 2, sayF 3]) :: (b3, blk 121 (iv x)) :: F)) (f.paps.length) ?_ ?_
  ·
   exact ⟨0, rfl, by omega, by omega, rfl, gm⟩
  intro k vs μ gP hI gQ g9
  clear hs
  obtain ⟨i, rfl, hia, rfl, hsk, hs⟩ := hI
  refine zAf (fun gR gy => (zAb (w_p (zCp rfl rfl rfl rfl) rfl (zAd (zAc (gy _ _ (zAf (fun gS gz => (zAr rfl rfl (fun ga => ?_) (fun ga => ?_))))))))))
  ·
   try simp only [zS] at ga
   refine zAn (zAc (gz _ _ (zAf (fun gT gc => (zAq ?_)))))
   refine zAf (fun gU gA => ?_)
   have hi2 : i < f.paps.length := by omega
   obtain ⟨bn, on, hbn, hxn⟩ := sl_pap hk.i.q hi2
   have hpp := hf.pap _ (List.getElem_mem hi2)
   have hp1 := hpp.says
   have hp2 := hpp.lot
   obtain ⟨no, hno⟩ : ∃ no : Nat, f.paps[i].lot = (no : Int) := ⟨f.paps[i].lot.toNat, by omega⟩
   have hl2 : no < f.lots.length := by omega
   obtain ⟨by_, oy, hby, hy⟩ := sl_lot hk.i hl2
   have hnt : f.paps[i].lot.toNat = no := by omega
   refine zAb (zA6 rfl rfl (w_p (zA7 underlying53 sizeOf113 rfl rfl (Eq.trans (show _ = Value.slice p.aq f.paps.length p.cq from rfl) (by rw [hbn])) rfl (b := bn) (off := on) (i := i) rfl hi2) rfl ?_))
   refine w_p (zA2 (vs := [_,_,_]) isAgg113 sizeOf113 hs.tail.tail rfl rfl hxn) rfl (zA1 (cs := [_,_,_]) zAa zeroValue113 rfl hs (fun gV gW gB => ?_))
   refine zBw rfl rfl (zBj 0 (.agg #[.int _ _, .int _ _, .int _ _]) [_,_,_] sizeOf113 gB (fun gX gd => ?_))
   refine zAd (zAc (gA _ _ (zAf (fun gY gC => (zAf (fun gZ gD => (zAb (w_p (zCn rfl rfl) rfl (w_p (zB0 rfl rfl) rfl (w_p (zAe (o := 5) (i := 1) underlying151 rfl sizeOf3 rfl rfl rfl) rfl ?_))))))))))
   refine w_p (zAg isAgg3 gd.tail.tail.tail rfl rfl (show Ats _ _ _ _ [_] from Ats.part hb 5 1)) rfl (zA6 rfl rfl (w_p (y_shr (x := but) (y := i) rfl rfl rfl rfl (by first | rfl | omega) (by first | rfl | omega) (by first | omega | exact zCr (by omega))) rfl ?_))
   refine w_p (show Yd _ _ _ _ (.int .i64 ((bit but i : Nat) : Int)) from (y_and (x := _) (y := 1) rfl rfl rfl rfl rfl rfl (by first | omega | exact zCr (by omega)) (by first | omega | exact zCr (by omega)))) rfl ?_
   refine w_p (zCa rfl rfl rfl rfl) rfl (zAd (zAc (gD _ _ (zAr rfl rfl (fun ge => ?_) (fun ge => ?_)))))
   ·
    try simp only [zS] at ge
    refine zBt (zAj (zAv (zAc (gc _ _ (zAb (w_p (zBo rfl rfl rfl rfl (by omega) (by omega)) rfl (zA6 rfl rfl (zAd (zAc (g9 _ _ (nxI (f.paps.length - (i + 1)) (by omega) ?_)))))))))))
    have gf := (show St _ _ (_ :: _ :: F) from gd.tail)
    first
      | exact ⟨i + 1, rfl, by omega, rfl, zFv hsk (soAt_1 (bit1 (by assumption))), gf⟩
      | exact ⟨i + 1, rfl, by omega, rfl, zFv hsk (soAt_2 hi2 ((zH9 hj (by omega)).symm.trans (by rw [hnt]; assumption))), gf⟩
      | exact ⟨i + 1, rfl, by omega, rfl, zFv hsk (soAt_2 hi2 ((zH8 hj (by omega) hp1.2).symm.trans (by rw [hnt, hmt]; assumption))), gf⟩
   try simp only [zS] at ge
   refine zAn (zAc (gC _ _ (zAf (fun hD gE => (zCq [] [(0,0),(1,1),(2,0),(3,1),(4,0),(5,0),(6,0),(7,0),(8,1),(9,0),(10,1),(11,0),(12,0),(13,1),(14,0),(15,1),(16,2),(17,0),(18,0)] zB4 (zBk (by kernel_rfl)) gd (fun hN g0 => ?_))))))
   refine d_w rfl (fun _ => zAe (o := 1) (i := 1) underlying113 rfl sizeOf3 rfl rfl rfl) rfl ?_
   refine zAz rfl zAa rfl g0 (fun _ hq => (zAg isAgg3 hq rfl rfl (aow 0 [_]))) ?_
   refine d_w rfl (fun _ => zCw underlying121 sizeOf3 rfl rfl rfl rfl (i := no) hno (by omega)) rfl ?_
   refine zAz rfl zAa rfl g0 (fun _ hq => (zAg isAgg3 hq rfl rfl (zC9 (i := 2) (j := no) rfl (by first | omega | rfl | (simp only [hx.1, zL] <;> omega))))) ?_
   refine d_w rfl (fun _ => zCn rfl rfl) rfl (d_w rfl (fun _ => zB0 rfl rfl) rfl (d_w rfl (fun _ => zAe (o := 0) (i := 0) underlying151 rfl sizeOf56 rfl rfl rfl) rfl (d_w rfl (fun _ => zAe (o := 2) (i := 2) underlying56 rfl sizeOf52 rfl rfl rfl) rfl ?_)))
   refine zAz rfl zAa rfl g0 (fun _ hq => (zCl hby (zAg isAgg52 hq.tail.tail.tail rfl rfl (show Ats _ _ _ _ [_] from Ats.part hb 2 1)))) ?_
   refine d_w rfl (fun _ => zAe (o := 1) (i := 1) underlying113 rfl sizeOf3 rfl rfl rfl) rfl ?_
   refine zAz rfl zAa rfl g0 (fun _ hq => (zAg isAgg3 hq rfl rfl (aow 0 [_]))) ?_
   refine d_w rfl (fun _ => zA7 underlying52 sizeOf100 rfl rfl rfl rfl (i := no) hno hl2) rfl (d_w rfl (fun _ => zAe (o := 0) (i := 0) underlying100 rfl sizeOf22 rfl rfl rfl) rfl ?_)
   refine zAz rfl zAa rfl g0 (fun _ hq => (zAg isAgg22 hq.tail.tail.tail rfl rfl (show Ats _ _ _ _ [_] from Ats.part hy 0 1))) ?_
   refine d_w rfl (fun _ => zAe (o := 2) (i := 2) underlying113 rfl sizeOf3 rfl rfl rfl) rfl ?_
   refine zAz rfl zAa rfl g0 (fun _ hq => (zAg isAgg3 hq rfl rfl (aow 0 [_]))) ?_
   refine zBh rfl ?_
   refine zCo zAa call116 rfl rfl rfl rfl (c116 _ _ (lotAt f no).route (hk.i.r no hl2).cons.cons.cons (by have := (zGc hf hl2).len; omega) _ g0) (fun hP g3 => ?_)
   refine zAd (qn ⟨g3, ?_⟩)
   refine d_w rfl (fun _ => zA0 rfl rfl) rfl (d_w rfl (fun _ => zA0 rfl rfl) rfl ?_)
   refine zBm ?_
   refine zAc (gE _ _ (zAf (fun hX gn => (zAf (fun hY gF => (zAb (w_p (zAe (o := 0) (i := 0) underlying113 rfl sizeOf3 rfl rfl rfl) rfl (w_p (zAg isAgg3 g3 rfl rfl (aow 0 [_])) rfl ?_))))))))
   refine w_p (zGw rfl rfl rfl rfl) rfl (zAd (zAc (gF _ _ (zAr rfl rfl (fun gg => ?_) (fun gg => ?_)))))
   ·
    try simp only [zS] at gg
    have hp3 := hpp.two (by omega)
    obtain ⟨mo, hmo⟩ : ∃ mo : Nat, f.paps[i].of_ = (mo : Int) := ⟨f.paps[i].of_.toNat, by omega⟩
    have hm2 : mo < f.lots.length := by omega
    have hmt : f.paps[i].of_.toNat = mo := by omega
    refine zCq [] [(0,0),(1,1),(2,0),(3,1),(5,0),(6,1),(7,0),(8,1),(4,2),(9,2),(10,0),(11,0)] zB4 (zBk (by kernel_rfl)) g3 (fun j0 g4 => ?_)
    refine d_w rfl (fun _ => zCn rfl rfl) rfl ?_
    refine zAz rfl zAa rfl g4 (fun _ hq => (zCt (i := 2) isAgg121 sizeOf121 (by first | omega | rfl | (simp only [hx.1, zL] <;> omega)) hq rfl rfl rfl)) ?_
    refine d_w rfl (fun _ => zAe (o := 1) (i := 1) underlying113 rfl sizeOf3 rfl rfl rfl) rfl ?_
    refine zAz rfl zAa rfl g4 (fun _ hq => (zHz hno (zAg isAgg3 hq rfl rfl (aow 0 [_])))) ?_
    refine d_w rfl (fun _ => zCn rfl rfl) rfl ?_
    refine zAz rfl zAa rfl g4 (fun _ hq => (zCt (i := 2) isAgg121 sizeOf121 (by first | omega | rfl | (simp only [hx.1, zL] <;> omega)) hq rfl rfl rfl)) ?_
    refine d_w rfl (fun _ => zAe (o := 2) (i := 2) underlying113 rfl sizeOf3 rfl rfl rfl) rfl ?_
    refine zAz rfl zAa rfl g4 (fun _ hq => (zHz hmo (zAg isAgg3 hq rfl rfl (aow 0 [_])))) ?_
    refine zBh rfl ?_
    refine zCo zAa call68 rfl rfl rfl rfl (c68 f p but cb mm hk.cons.cons.cons x hx no hl2 g4) (fun j1 go => ?_)
    refine zAd (qn ⟨go, ?_⟩)
    refine zBh rfl ?_
    refine zCo zAa call68 rfl rfl rfl rfl (c68 f p but cb mm hk.cons.cons.cons x hx mo hm2 go) (fun j3 g5 => ?_)
    refine zAd (qn ⟨g5, ?_⟩)
    refine d_w rfl (fun _ => zA0 rfl rfl) rfl (d_w rfl (fun _ => zA0 rfl rfl) rfl ?_)
    refine zBm ?_
    refine zAc (gn _ _ (zAf (fun j4 gG => ?_)))
    obtain ⟨j, hj⟩ : ∃ j : Nat, f.paps[i].says = (j : Int) := ⟨f.paps[i].says.toNat, by omega⟩
    have hj4 : j < 4 := by omega
    have hsf := say_at (w0 := w0) (L := (g8, blk 177 [sayF 0, sayF 1, sayF 2, sayF 3]) :: (b3, blk 121 (iv x)) :: F) (i := 0) (t := 177) rfl hj4
    refine zAb (w_p (zAe (o := 0) (i := 0) underlying113 rfl sizeOf3 rfl rfl rfl) rfl (w_p (zAg isAgg3 g5 rfl rfl (aow 0 [_])) rfl (w_p (zCw underlying177 sizeOf176 rfl rfl rfl rfl (i := j) hj (by omega)) rfl (w_p (zAe (o := 0) (i := 0) underlying176 rfl sizeOf174 rfl rfl rfl) rfl ?_))))
    refine w_p (zAg isAgg174 g5.tail rfl rfl hsf) rfl (zA6 rfl rfl (zA6 rfl rfl (zD0 zAa rfl rfl rfl rfl (say_con _ _ hj4 g5) ?_)))
    rintro _ j5 ⟨rfl, g6⟩
    refine w_p (zDo rfl rfl) rfl (zAd (zAc (gG _ _ (zAr rfl rfl (fun gh => ?_) (fun gh => ?_)))))
    ·
     try simp only [zS] at gh
     refine zAf (fun j6 gH => (zAb (zBi rfl rfl (zAd (zAc (gH _ _ (zA8 (zA9 (zAl (zAl (zA9 (zAl (zBa (l := [.tmp 4]) (vs := [_]) rfl ⟨⟨rfl, (rfl : _ = Value.bool _)⟩, trivial⟩ ?_)))))))))))))
     first
       | exact ⟨congrArg Value.bool (zFw (zH6 hi2 (bit0 (by assumption)) ((zH9 hj (by omega)).symm.trans (by rw [hnt]; assumption))) _ hi2).symm, g6.tail.tail.tail⟩
       | exact ⟨congrArg Value.bool (zFw (zH6 hi2 (bit0 (by assumption)) ((zH8 hj (by omega) hp1.2).symm.trans (by rw [hnt, hmt]; assumption))) _ hi2).symm, g6.tail.tail.tail⟩
       | (have hil : i = f.paps.length := by omega
          subst hil
          exact ⟨congrArg Value.bool hsk.symm, g6.tail.tail.tail⟩)
    try simp only [zS] at gh
    refine zAn (zAi (zAc (gc _ _ (zAb (w_p (zBo rfl rfl rfl rfl (by omega) (by omega)) rfl (zA6 rfl rfl (zAd (zAc (g9 _ _ (nxI (f.paps.length - (i + 1)) (by omega) ?_))))))))))
    have gi := (show St _ _ (_ :: _ :: F) from g6.tail)
    first
      | exact ⟨i + 1, rfl, by omega, rfl, zFv hsk (soAt_1 (bit1 (by assumption))), gi⟩
      | exact ⟨i + 1, rfl, by omega, rfl, zFv hsk (soAt_2 hi2 ((zH9 hj (by omega)).symm.trans (by rw [hnt]; assumption))), gi⟩
      | exact ⟨i + 1, rfl, by omega, rfl, zFv hsk (soAt_2 hi2 ((zH8 hj (by omega) hp1.2).symm.trans (by rw [hnt, hmt]; assumption))), gi⟩
   try simp only [zS] at gg
   refine zAn (zAc (gn _ _ (zAf (fun j7 gI => ?_))))
   obtain ⟨j, hj⟩ : ∃ j : Nat, f.paps[i].says = (j : Int) := ⟨f.paps[i].says.toNat, by omega⟩
   have hj4 : j < 4 := by omega
   have hsf := say_at (w0 := w0) (L := (g8, blk 177 [sayF 0, sayF 1, sayF 2, sayF 3]) :: (b3, blk 121 (iv x)) :: F) (i := 0) (t := 177) rfl hj4
   refine zAb (w_p (zAe (o := 0) (i := 0) underlying113 rfl sizeOf3 rfl rfl rfl) rfl (w_p (zAg isAgg3 g3 rfl rfl (aow 0 [_])) rfl (w_p (zCw underlying177 sizeOf176 rfl rfl rfl rfl (i := j) hj (by omega)) rfl (w_p (zAe (o := 0) (i := 0) underlying176 rfl sizeOf174 rfl rfl rfl) rfl ?_))))
   refine w_p (zAg isAgg174 g3.tail rfl rfl hsf) rfl (zA6 rfl rfl (zA6 rfl rfl (zD0 zAa rfl rfl rfl rfl (say_con _ _ hj4 g3) ?_)))
   rintro _ j8 ⟨rfl, g7⟩
   refine w_p (zDo rfl rfl) rfl (zAd (zAc (gI _ _ (zAr rfl rfl (fun gj => ?_) (fun gj => ?_)))))
   ·
    try simp only [zS] at gj
    refine zAf (fun j9 gJ => (zAb (zBi rfl rfl (zAd (zAc (gJ _ _ (zA8 (zA9 (zAl (zAl (zA9 (zAl (zBa (l := [.tmp 4]) (vs := [_]) rfl ⟨⟨rfl, (rfl : _ = Value.bool _)⟩, trivial⟩ ?_)))))))))))))
    first
      | exact ⟨congrArg Value.bool (zFw (zH6 hi2 (bit0 (by assumption)) ((zH9 hj (by omega)).symm.trans (by rw [hnt]; assumption))) _ hi2).symm, g7.tail.tail.tail⟩
      | exact ⟨congrArg Value.bool (zFw (zH6 hi2 (bit0 (by assumption)) ((zH8 hj (by omega) hp1.2).symm.trans (by rw [hnt, hmt]; assumption))) _ hi2).symm, g7.tail.tail.tail⟩
      | (have hil : i = f.paps.length := by omega
         subst hil
         exact ⟨congrArg Value.bool hsk.symm, g7.tail.tail.tail⟩)
   try simp only [zS] at gj
   refine zAn (zAi (zAc (gc _ _ (zAb (w_p (zBo rfl rfl rfl rfl (by omega) (by omega)) rfl (zA6 rfl rfl (zAd (zAc (g9 _ _ (nxI (f.paps.length - (i + 1)) (by omega) ?_))))))))))
   have gk := (show St _ _ (_ :: _ :: F) from g7.tail)
   first
     | exact ⟨i + 1, rfl, by omega, rfl, zFv hsk (soAt_1 (bit1 (by assumption))), gk⟩
     | exact ⟨i + 1, rfl, by omega, rfl, zFv hsk (soAt_2 hi2 ((zH9 hj (by omega)).symm.trans (by rw [hnt]; assumption))), gk⟩
     | exact ⟨i + 1, rfl, by omega, rfl, zFv hsk (soAt_2 hi2 ((zH8 hj (by omega) hp1.2).symm.trans (by rw [hnt, hmt]; assumption))), gk⟩
  try simp only [zS] at ga
  refine zBt (zAj (zAj (zAv (zAc (gw _ _ (zAf (fun ja gK => (zAb (zBi rfl rfl (zAd (zAc (gK _ _ (zA8 (zBa (l := [.tmp 4]) (vs := [_]) rfl ⟨⟨rfl, (rfl : _ = Value.bool _)⟩, trivial⟩ ?_))))))))))))))
  first
    | exact ⟨congrArg Value.bool (zFw (zH6 hi2 (bit0 (by assumption)) ((zH9 hj (by omega)).symm.trans (by rw [hnt]; assumption))) _ hi2).symm, hs.tail.tail⟩
    | exact ⟨congrArg Value.bool (zFw (zH6 hi2 (bit0 (by assumption)) ((zH8 hj (by omega) hp1.2).symm.trans (by rw [hnt, hmt]; assumption))) _ hi2).symm, hs.tail.tail⟩
    | (have hil : i = f.paps.length := by omega
       subst hil
       exact ⟨congrArg Value.bool hsk.symm, hs.tail.tail⟩)

theorem c76 {w0 w : World} {F : List (Nat × Obj)} (f : File) (p : AtF) (but : Nat) (hs : St w0 w F) :
  Con Tryz.prog 76 [.agg (f.cells p).toArray, .int .i64 (but : Int)] w fun v w' => ∃ cb mm, v = .pointer (some ⟨cb, 0, none⟩) ∧ St w0 w' ((cb, blk 151 [.slice p.ap f.parties.length p.cp, .slice p.au f.until_.length p.cu, .slice p.al f.lots.length p.cl, .slice p.aq f.paps.length p.cq, .slice p.ac f.clms.length p.cc, .int .i64 (but : Int), .map (some mm)]) :: (mm, .map #[] 0) :: F) := by
  refine zAo (n := 10) func76 rfl rfl (zNl rfl) ?_
  refine zAf (fun K2 g3 => (zAb (zCj (v := .agg #[.slice _ _ _, .slice _ _ _, .slice _ _ _, .slice _ _ _, .slice _ _ _]) (cs := [_,_,_,_,_]) zAa rfl rfl rfl hs (fun b3 w4 g0 => ?_))))
  refine zBi rfl rfl (zAd (zAc (g3 _ _ (zAf (fun K7 g4 => (zAb (w_p (zA2 (vs := [_,_,_,_,_]) isAgg56 sizeOf56 g0 rfl rfl (aow 0 [_,_,_,_,_])) rfl (zA6 rfl rfl ?_))))))))
  refine w_makeMap zAa g0 (fun b8 w9 g5 => ?_)
  refine w_p (zB1 (ps := [(0, _),(1, _),(2, _)]) (pv := [(0, .agg #[.slice _ _ _, .slice _ _ _, .slice _ _ _, .slice _ _ _, .slice _ _ _]),(1, .int _ _),(2, .map _)]) rfl rfl (fun w => Try_LC_fb3 _ _ _ _ _ _ _ _ _ _ _ _ _ _ _ _ _ w)) rfl (zCj (v := .agg #[.slice _ _ _, .slice _ _ _, .slice _ _ _, .slice _ _ _, .slice _ _ _, .int _ _, .map _]) (cs := [_,_,_,_,_,_,_]) zAa rfl rfl rfl g5 (fun g7 g8 g6 => ?_))
  refine w_p (zDf rfl rfl) rfl (zAd (zAc (g4 _ _ (zA8 (zBa (l := [.tmp 4]) (vs := [_]) rfl ⟨⟨rfl, show _ = (.pointer _ : Value) from rfl⟩, trivial⟩ ?_)))))
  exact ⟨_, _, rfl, (St.perm (L := [_,_,_] ++ F) g6 (zBp [_,_] [_] F)).tail⟩

end Go.Proofs.Uc
set_option maxRecDepth 20000
namespace Go.Proofs.Uc
open Go.Proofs.Tryz
open Go.Rt Go.Rt.Cm
open Go.Rt.Ha (felt spanL upto zBv listL bit Bunch zB8 zCi zBx zB2 zCg zCf zBu)
attribute [local irreducible] WL WC Con Yd At Ats Sl Agree DW
theorem Try_flat121 : flatInts Tryz.prog 121 4 = true := by kernel_rfl
def NextC (f : File) (but cb bp bl bla bsn bY bn : Nat) (Ls : List (List Int)) (J : Nat → List (Nat × Obj) → Prop) (Js : List (Nat × Obj) → Prop) (yv : Value) (w0 : World) (F : List (Nat × Obj)) (rem : Nat) : Prop :=
  ∀ (d : Nat) (pre g last : List Int) (i : Nat) (R RF : List (List Int)) (B X : List (Nat × Obj)) (w : World), d + rem = f.lots.length → pre.length = d → (∀ j, j < d → (lotAt f j).lo ≤ pre.getD j 0 ∧ pre.getD j 0 ≤ (lotAt f j).hi) → g.length = 4 → g.take d = pre → (∀ j, f.lots.length ≤ j → g.getD j 0 = 0) → i ≤ Ls.length →
    Ls.drop i = segK f but d pre ++ R → last.length = 4 → (segF f d pre ++ RF).Nodup → last ∉ segF f d pre ++ RF → J i B → St w0 w ((bn, blk 111 [.func (.func 90) #[] #[.pointer (some ⟨bp, 0, none⟩), .pointer (some ⟨bl, 0, none⟩), .pointer (some ⟨bla, 0, none⟩), .pointer (some ⟨bsn, 0, none⟩), .pointer (some ⟨bY, 0, none⟩), .pointer (some ⟨bn, 0, none⟩)]]) :: (bla, blk 121 (iv last)) :: (bl, blk 121 (iv g)) :: (bsn, blk 148 [.func (.func 89) #[.pointer (some ⟨cb, 0, none⟩)] #[]]) :: (bY, blk 148 [yv]) :: (X ++ (B ++ F))) →
    Con Tryz.prog 90 [.int .i64 (d : Int), .pointer (some ⟨bp, 0, none⟩), .pointer (some ⟨bl, 0, none⟩), .pointer (some ⟨bla, 0, none⟩), .pointer (some ⟨bsn, 0, none⟩), .pointer (some ⟨bY, 0, none⟩), .pointer (some ⟨bn, 0, none⟩)] w fun v w' => ∃ (g' last' : List Int) (B' : List (Nat × Obj)), g'.length = 4 ∧ last'.length = 4 ∧ g'.take d = pre ∧ (∀ j, f.lots.length ≤ j → g'.getD j 0 = 0) ∧ St w0 w' ((bn, blk 111 [.func (.func 90) #[] #[.pointer (some ⟨bp, 0, none⟩), .pointer (some ⟨bl, 0, none⟩), .pointer (some ⟨bla, 0, none⟩), .pointer (some ⟨bsn, 0, none⟩), .pointer (some ⟨bY, 0, none⟩), .pointer (some ⟨bn, 0, none⟩)]]) :: (bla, blk 121 (iv last')) :: (bl, blk 121 (iv g')) :: (bsn, blk 148 [.func (.func 89) #[.pointer (some ⟨cb, 0, none⟩)] #[]]) :: (bY, blk 148 [yv]) :: (X ++ (B' ++ F))) ∧
      ((v = .bool true ∧ ∃ i', i' ≤ Ls.length ∧ Ls.drop i' = R ∧ last' ∉ RF ∧ J i' B') ∨ (v = .bool false ∧ Js B'))
theorem zD3 {Ls R : List (List Int)} {cur : List Int} {i : Nat} {b : Bool} (hpos : Ls.drop i = (if b = true then [cur] else []) ++ R) (h : b = false) : Ls.drop i = R := by rw [hpos, h]; rfl
theorem leaf_some {Ls R : List (List Int)} {cur : List Int} {i : Nat} {b : Bool} (hpos : Ls.drop i = (if b = true then [cur] else []) ++ R) (h : b = true) : Ls.drop i = cur :: R := by rw [hpos, h]; rfl
theorem fr6 {w0 w : World} {R : List (Nat × Obj)} {a b c e f g : Nat × Obj} (hs : St w0 w (a :: b :: c :: e :: f :: g :: R)) : St w0 w (b :: c :: e :: f :: g :: a :: R) := hs.perm (zBp [a] [b, c, e, f, g] R)
theorem bk6 {w0 w : World} {R : List (Nat × Obj)} {a b c e f g : Nat × Obj} (hs : St w0 w (b :: c :: e :: f :: g :: a :: R)) : St w0 w (a :: b :: c :: e :: f :: g :: R) := hs.perm (zBp [b, c, e, f, g] [a] R)
theorem iv1 {a b : Int} (h : a = b) : [Value.int .i64 a] = [Value.int .i64 b] := by rw [h]
theorem c90 {w0 : World} {F : List (Nat × Obj)} (f : File) (p : AtF) (but cb mm : Nat) (hk : CK w0 F f p but cb mm)  (bp bl bla bsn bY bn : Nat) (h1 : Ats w0 F bp 0 [.pointer (some ⟨cb, 0, none⟩)]) (Ls : List (List Int)) (J : Nat → List (Nat × Obj) → Prop) (Js : List (Nat × Obj) → Prop) (yv : Value) (hy : ∀ (i : Nat) (x : List Int) (R : List (List Int)) (B X : List (Nat × Obj)) (w : World), Ls.drop i = x :: R → J i B → St w0 w (X ++ (B ++ F)) → FCon Tryz.prog yv [ia x] w fun v w' => ∃ B', St w0 w' (X ++ (B' ++ F)) ∧ (v = .bool true ∧ J (i + 1) B' ∨ v = .bool false ∧ Js B')) (rem : Nat) (ih : ∀ r, rem = r + 1 → NextC f but cb bp bl bla bsn bY bn Ls J Js yv w0 F r) : NextC f but cb bp bl bla bsn bY bn Ls J Js yv w0 F rem := by
  intro d pre g last i R RF B X w hdr hpl hpr hgl hkt hz hi hpos hll hnd hlast hJ hs
  have hb := hk.l
  have hf := hk.ok
  have hlo := hf.ll
  refine zAo (n := 57) func90 rfl rfl (zNl rfl) ?_
  refine zAf (fun K2 ge => (zAb (zBi rfl rfl (zAd (zAc (ge _ _ (zAf (fun K4 gf => (zAf (fun K6 gg => (zAb (zA6 rfl rfl (w_p (zAg isAgg114 hs.tail.tail.tail.tail.tail.drop.drop rfl rfl h1) rfl ?_)))))))))))))
  refine w_p (zB0 rfl rfl) rfl (w_p (zAe (o := 0) (i := 0) underlying151 rfl sizeOf56 rfl rfl rfl) rfl (w_p (zAe (o := 2) (i := 2) underlying56 rfl sizeOf52 rfl rfl rfl) rfl (w_p (zAg isAgg52 hs.tail.tail.tail.tail.tail.drop.drop rfl rfl (show Ats _ _ _ _ [_] from Ats.part hb 2 1)) rfl ?_)))
  refine w_p (zBc underlying52 rfl rfl) rfl (w_p (zCa rfl rfl rfl rfl) rfl (zAd (zAc (gg _ _ (zAr rfl rfl (fun h7 => ?_) (fun h7 => ?_))))))
  ·
   try simp only [zS] at h7
   refine zAf (fun K9 gh => (zAf (fun gA gi => ?_)))
   have hr0 : rem = 0 := by omega
   subst hr0
   have hgp := cur_pad4 hgl hpl (by omega) hkt (by have hdn : d = f.lots.length := (by omega); subst hdn; exact hz)
   have hin : In4 f g := ⟨hgl, fun i hi => by rw [hgp, pad4_at]; exact hpr i (by omega)⟩
   rw [segK_leaf (by omega), ← hgp] at hpos
   rw [zF7 (by omega), ← hgp] at hlast hnd
   have hne : ¬ g = last := fun e => hlast (by rw [← e]; exact .head _)
   have hnc : g ∉ RF := (List.nodup_cons.1 hnd).1
   have hln : last ∉ RF := fun h => hlast (.tail _ h)
   refine zAb (w_p (zCt (i := 2) isAgg121 sizeOf121 (by first | omega | rfl | (simp only [hgl, hll, zL] <;> omega)) hs rfl rfl rfl) rfl ?_)
   refine w_p (zCt (i := 1) isAgg121 sizeOf121 (by first | omega | rfl | (simp only [hgl, hll, zL] <;> omega)) hs rfl rfl rfl) rfl ?_
   refine w_p (zFt (l := _) (m := _) eqGuardType121 Try_flat121 (by first | omega | rfl | (simp only [hgl, hll, zL] <;> omega)) (by first | omega | rfl | (simp only [hgl, hll, zL] <;> omega)) rfl rfl rfl rfl rfl rfl) rfl ?_
   refine w_p (zAt rfl rfl) rfl (zB5 (fun g5 => ?_) (fun g5 => ?_))
   ·
    exfalso
    try simp only [zS] at g5
    exact hne g5
   try simp only [zS] at g5
   refine w_y rfl rfl rfl (zAg isAgg148 hs rfl rfl (aow 3 [_])) rfl ?_
   refine w_y rfl rfl rfl (zCt (i := 2) isAgg121 sizeOf121 (by first | omega | rfl | (simp only [hgl, hll, zL] <;> omega)) hs rfl rfl rfl) rfl ?_
   refine zA4 (zAh rfl rfl rfl) call89 rfl rfl rfl rfl (c89 f p but cb mm hk.app.app.cons.cons.cons.cons.cons g hin hs) ?_
   rintro _ gB ⟨rfl, g4⟩
   refine w_y rfl rfl rfl (zDo rfl rfl) rfl ?_
   refine w_p (zBg (v := .bool _) rfl rfl rfl rfl) rfl (zAd (zAc (gi _ _ (zAr rfl rfl (fun g6 => ?_) (fun g6 => ?_)))))
   ·
    try simp only [zS] at g6
    refine zAf (fun gC gj => (zAb (zBi rfl rfl (zAd (zAc (gj _ _ (zA8 (zAl (zAl (zBa (l := [.tmp 8]) (vs := [_]) rfl ⟨⟨rfl, (rfl : _ = Value.bool _)⟩, trivial⟩ ?_))))))))))
    first
      | exact ⟨g, last, B, hgl, hll, hkt, hz, g4, .inl ⟨rfl, i, hi, zD3 hpos (by assumption), hln, hJ⟩⟩
      | exact ⟨g, _, B1, hgl, hgl, hkt, hz, g4, .inl ⟨rfl, i + 1, zB8 hpos2, zBx hpos2, hnc, hJ1⟩⟩
      | exact ⟨g, _, B1, hgl, hgl, hkt, hz, g4, .inr ⟨rfl, hJ1⟩⟩
      | exact ⟨g2, last2, B2, hg2, hl2, zBu hk2 hpl, hz2, g4, .inr ⟨rfl, hJ2⟩⟩
      | (rw [zDq (by omega), List.nil_append] at hpos
         rw [zDr (by omega), List.nil_append] at hlast
         exact ⟨g, last, B, hgl, hll, hkt, hz, g4, .inl ⟨rfl, i, hi, hpos, hlast, hJ⟩⟩)
   try simp only [zS] at g6
   refine zAn (zAc (gh _ _ (zAf (fun gD gk => ?_))))
   have hpos2 := leaf_some hpos (by assumption)
   refine zAb (w_p (zCt (i := 2) isAgg121 sizeOf121 (by first | omega | rfl | (simp only [hgl, hll, zL] <;> omega)) g4 rfl rfl rfl) rfl ?_)
   refine zDg (i := 1) (l := _) zAa sizeOf121 (by first | omega | rfl | (simp only [hgl, hll, zL] <;> omega)) rfl rfl rfl rfl rfl g4 rfl (by first | omega | rfl | (simp only [hgl, hll, zL] <;> omega)) (fun gE g7 => ?_)
   refine zAd (zAc (gk _ _ (zAf (fun gF g9 => (zAb (w_p (zAg isAgg148 g7 rfl rfl (aow 4 [_])) rfl (w_p (zCt (i := 2) isAgg121 sizeOf121 (by first | omega | rfl | (simp only [hgl, hll, zL] <;> omega)) g7 rfl rfl rfl) rfl ?_)))))))
   refine zD0 zAa rfl rfl rfl rfl (hy i _ R B (_ :: _ :: _ :: _ :: _ :: X) _ hpos2 hJ g7) ?_
   rintro _ gG ⟨B1, g0, (⟨rfl, hJ1⟩ | ⟨rfl, hJ1⟩)⟩
   ·
    replace g0 := (show St _ _ (_ :: _ :: _ :: _ :: _ :: X ++ (B1 ++ (F))) from g0)
    refine w_p (zAs rfl rfl) rfl (zAd (zAc (g9 _ _ (zA8 (zAl (zBa (l := [.tmp 8]) (vs := [_]) rfl ⟨⟨rfl, (rfl : _ = Value.bool _)⟩, trivial⟩ ?_))))))
    first
      | exact ⟨g, last, B, hgl, hll, hkt, hz, g0, .inl ⟨rfl, i, hi, zD3 hpos (by assumption), hln, hJ⟩⟩
      | exact ⟨g, _, B1, hgl, hgl, hkt, hz, g0, .inl ⟨rfl, i + 1, zB8 hpos2, zBx hpos2, hnc, hJ1⟩⟩
      | exact ⟨g, _, B1, hgl, hgl, hkt, hz, g0, .inr ⟨rfl, hJ1⟩⟩
      | exact ⟨g2, last2, B2, hg2, hl2, zBu hk2 hpl, hz2, g0, .inr ⟨rfl, hJ2⟩⟩
      | (rw [zDq (by omega), List.nil_append] at hpos
         rw [zDr (by omega), List.nil_append] at hlast
         exact ⟨g, last, B, hgl, hll, hkt, hz, g0, .inl ⟨rfl, i, hi, hpos, hlast, hJ⟩⟩)
   replace g0 := (show St _ _ (_ :: _ :: _ :: _ :: _ :: X ++ (B1 ++ (F))) from g0)
   refine w_p (zAs rfl rfl) rfl (zAd (zAc (g9 _ _ (zA8 (zAl (zBa (l := [.tmp 8]) (vs := [_]) rfl ⟨⟨rfl, (rfl : _ = Value.bool _)⟩, trivial⟩ ?_))))))
   first
     | exact ⟨g, last, B, hgl, hll, hkt, hz, g0, .inl ⟨rfl, i, hi, zD3 hpos (by assumption), hln, hJ⟩⟩
     | exact ⟨g, _, B1, hgl, hgl, hkt, hz, g0, .inl ⟨rfl, i + 1, zB8 hpos2, zBx hpos2, hnc, hJ1⟩⟩
     | exact ⟨g, _, B1, hgl, hgl, hkt, hz, g0, .inr ⟨rfl, hJ1⟩⟩
     | exact ⟨g2, last2, B2, hg2, hl2, zBu hk2 hpl, hz2, g0, .inr ⟨rfl, hJ2⟩⟩
     | (rw [zDq (by omega), List.nil_append] at hpos
        rw [zDr (by omega), List.nil_append] at hlast
        exact ⟨g, last, B, hgl, hll, hkt, hz, g0, .inl ⟨rfl, i, hi, hpos, hlast, hJ⟩⟩)
  try simp only [zS] at h7
  refine zAn (zAc (gf _ _ (zAf (fun gH gm => ?_))))
  obtain ⟨r, rfl⟩ : ∃ r, rem = r + 1 := ⟨rem - 1, by omega⟩
  have ih2 := ih r rfl
  have hd2 : d < f.lots.length := by omega
  rw [segK_node hd2] at hpos
  rw [zF6 hd2] at hlast hnd
  have hbi := (zGc hf hd2).turned
  have hbl4 := (zGc hf hd2).len
  obtain ⟨bx, ox, hbx, hx⟩ := sl_lot hk.i hd2
  refine zAb (w_p (zAg isAgg114 hs.tail.tail.tail.tail.tail.drop.drop rfl rfl h1) rfl (w_p (zB0 rfl rfl) rfl (w_p (zAe (o := 0) (i := 0) underlying151 rfl sizeOf56 rfl rfl rfl) rfl (w_p (zAe (o := 2) (i := 2) underlying56 rfl sizeOf52 rfl rfl rfl) rfl ?_))))
  refine w_p (zCl hbx (zAg isAgg52 hs.tail.tail.tail.tail.tail.drop.drop rfl rfl (show Ats _ _ _ _ [_] from Ats.part hb 2 1))) rfl (zA6 rfl rfl (w_p (zA7 underlying52 sizeOf100 rfl rfl rfl rfl (i := d) rfl hd2) rfl (w_p (zAe (o := 1) (i := 1) underlying100 rfl sizeOf36 rfl rfl rfl) rfl (w_p (zA2 (vs := [_,_]) isAgg36 sizeOf36 hs.tail.tail.tail.tail.tail.drop.drop rfl rfl (show Ats _ _ _ _ [_,_] from Ats.part hx 1 2)) rfl ?_))))
  refine zA1 (cs := [_,_]) zAa zeroValue36 rfl hs (fun gn gI go => ?_)
  refine zBj 0 (.agg #[.int _ _, .int _ _]) [_,_] sizeOf36 go (fun gJ ga => ?_)
  refine zAd (zAc (gm _ _ (zAf (fun gK gp => (zAf (fun gL gq => (zAb (w_p (zAe (o := 0) (i := 0) underlying36 rfl sizeOf3 rfl rfl rfl) rfl (w_p (zAg isAgg3 ga rfl rfl (aow 0 [_])) rfl ?_)))))))))
  refine zBw rfl rfl (zAd (zAc (gq _ _ (zAq ?_))))
  refine zB6 [8,10,43,44,45,46,47,48,49,50,51,52,53,54,55,56] [10] (fun k vs w => ∃ (q : Nat) (g last : List Int) (i : Nat) (B : List (Nat × Obj)), vs = [.int .i64 ((lotAt f d).lo + q)] ∧ (q : Int) ≤ (lotAt f d).hi + 1 - (lotAt f d).lo ∧ k = ((lotAt f d).hi + 1 - (lotAt f d).lo).toNat - q ∧ g.length = 4 ∧ last.length = 4 ∧ g.take d = pre ∧ (∀ j, f.lots.length ≤ j → g.getD j 0 = 0) ∧ i ≤ Ls.length ∧ Ls.drop i = restK f but d pre (upto ((lotAt f d).lo + q) (((lotAt f d).hi + 1 - (lotAt f d).lo).toNat - q)) ++ R ∧ (restF f d pre (upto ((lotAt f d).lo + q) (((lotAt f d).hi + 1 - (lotAt f d).lo).toNat - q)) ++ RF).Nodup ∧ last ∉ restF f d pre (upto ((lotAt f d).lo + q) (((lotAt f d).hi + 1 - (lotAt f d).lo).toNat - q)) ++ RF ∧ J i B ∧ St w0 w ((gn, blk 36 [.int .i64 (lotAt f d).lo, .int .i64 (lotAt f d).hi]) :: (bn, blk 111 [.func (.func 90) #[] #[.pointer (some ⟨bp, 0, none⟩), .pointer (some ⟨bl, 0, none⟩), .pointer (some ⟨bla, 0, none⟩), .pointer (some ⟨bsn, 0, none⟩), .pointer (some ⟨bY, 0, none⟩), .pointer (some ⟨bn, 0, none⟩)]]) :: (bla, blk 121 (iv last)) :: (bl, blk 121 (iv g)) :: (bsn, blk 148 [.func (.func 89) #[.pointer (some ⟨cb, 0, none⟩)] #[]]) :: (bY, blk 148 [yv]) :: (X ++ (B ++ F)))) (((lotAt f d).hi + 1 - (lotAt f d).lo).toNat) ?_ ?_
  ·
   exact ⟨0, g, last, i, B, iv1 (by omega), by omega, by omega, hgl, hll, hkt, hz, hi, by rw [show (lotAt f d).lo + ((0 : Nat) : Int) = (lotAt f d).lo by omega, Nat.sub_zero]; exact hpos, by rw [show (lotAt f d).lo + ((0 : Nat) : Int) = (lotAt f d).lo by omega, Nat.sub_zero]; exact hnd, by rw [show (lotAt f d).lo + ((0 : Nat) : Int) = (lotAt f d).lo by omega, Nat.sub_zero]; exact hlast, hJ, ga⟩
  intro k vs μ gM hI gN gt
  clear hkt hz hi hpos hll hlast hnd hJ hs hgl
  obtain ⟨q, g, last, i, B, rfl, hq, rfl, hgl, hll, hkt, hz, hi, hpos, hnd, hlast, hJ, hs⟩ := hI
  refine zAf (fun gO gu => (zAf (fun gP gv => (zAb (zA6 rfl rfl (w_p (zAe (o := 1) (i := 1) underlying36 rfl sizeOf3 rfl rfl rfl) rfl (w_p (zAg isAgg3 hs rfl rfl (aow 0 [_])) rfl ?_)))))))
  refine w_p (zFc rfl rfl rfl rfl) rfl (zAd (zAc (gv _ _ (zAr rfl rfl (fun g8 => ?_) (fun g8 => ?_)))))
  ·
   try simp only [zS] at g8
   refine zAn (zAc (gu _ _ (zAf (fun gQ gw => (zAq ?_)))))
   refine zAf (fun gR gx => (zAb (zA6 rfl rfl (zA6 rfl rfl (w_p (zCw underlying121 sizeOf3 rfl rfl rfl rfl (i := d) rfl (by omega)) rfl (zDp (i := 3) (j := d) zAa sizeOf3 rfl rfl rfl rfl hs rfl (by first | omega | rfl | (simp only [hgl, hll, zL] <;> omega)) (fun gS gc => ?_)))))))
   refine zAd (zAc (gx _ _ (zAf (fun gT gd => (zAb (w_p (zAg isAgg111 gc rfl rfl (aow 1 [_])) rfl (zA6 rfl rfl (w_p (zBo rfl rfl rfl rfl (by omega) (by omega)) rfl ?_))))))))
   refine zA4 zAa call90 rfl rfl rfl rfl (ih2 (d + 1) (pre ++ [(lotAt f d).lo + (q : Int)]) _ last i _ _ B (_ :: X) _ (by omega) (by simp; omega) (pre_next4 hpl hpr (by omega)) (by rw [List.length_set]; exact hgl) (zCg hkt (by omega)) (zCf (by omega) hz) hi (by rw [zIa (by omega), List.append_assoc] at hpos; exact hpos) hll (by rw [zEu (by omega), List.append_assoc] at hnd; exact hnd) (by rw [zEu (by omega), List.append_assoc] at hlast; exact hlast) hJ (fr6 gc)) ?_
   rintro _ gU ⟨g2, last2, B2, hg2, hl2, hk2, hz2, g3, (⟨rfl, i2, hi2, hp2, hn2, hJ2⟩ | ⟨rfl, hJ2⟩)⟩
   ·
    replace g3 := bk6 (show St _ _ (_ :: _ :: _ :: _ :: _ :: _ :: (X ++ (B2 ++ F))) from g3)
    refine w_p (zDo rfl rfl) rfl (zAd (zAc (gd _ _ (zBs rfl rfl ?_))))
    refine zAn (zAi (zAc (gw _ _ (zAb (zA6 rfl rfl (w_p (zBo rfl rfl rfl rfl (by omega) (by omega)) rfl (zBw rfl rfl (zAd (zAc (gt _ _ (nxI (((lotAt f d).hi + 1 - (lotAt f d).lo).toNat - (q + 1)) (by omega) ?_)))))))))))
    exact ⟨q + 1, g2, last2, i2, B2, iv1 (by omega), by omega, rfl, hg2, hl2, zBu hk2 hpl, hz2, hi2, hp2, (by rw [zEu (by omega), List.append_assoc] at hnd; exact (List.nodup_append.1 hnd).2.1), hn2, hJ2, g3⟩
   replace g3 := bk6 (show St _ _ (_ :: _ :: _ :: _ :: _ :: _ :: (X ++ (B2 ++ F))) from g3)
   refine w_p (zDo rfl rfl) rfl (zAd (zAc (gd _ _ (zDb rfl rfl ?_))))
   refine zAf (fun gV gy => (zAb (zBi rfl rfl (zAd (zAc (gy _ _ (zA8 (zA9 (zAl (zAl (zA9 (zAl (zBa (l := [.tmp 8]) (vs := [_]) rfl ⟨⟨rfl, (rfl : _ = Value.bool _)⟩, trivial⟩ ?_)))))))))))))
   first
     | exact ⟨g, last, B, hgl, hll, hkt, hz, g3.tail, .inl ⟨rfl, i, hi, zD3 hpos (by assumption), hln, hJ⟩⟩
     | exact ⟨g, _, B1, hgl, hgl, hkt, hz, g3.tail, .inl ⟨rfl, i + 1, zB8 hpos2, zBx hpos2, hnc, hJ1⟩⟩
     | exact ⟨g, _, B1, hgl, hgl, hkt, hz, g3.tail, .inr ⟨rfl, hJ1⟩⟩
     | exact ⟨g2, last2, B2, hg2, hl2, zBu hk2 hpl, hz2, g3.tail, .inr ⟨rfl, hJ2⟩⟩
     | (rw [zDq (by omega), List.nil_append] at hpos
        rw [zDr (by omega), List.nil_append] at hlast
        exact ⟨g, last, B, hgl, hll, hkt, hz, g3.tail, .inl ⟨rfl, i, hi, hpos, hlast, hJ⟩⟩)
  try simp only [zS] at g8
  refine zBt (zAj (zAj (zAv (zAc (gp _ _ (zAf (fun gW gz => (zAb (zBi rfl rfl (zAd (zAc (gz _ _ (zA8 (zBa (l := [.tmp 8]) (vs := [_]) rfl ⟨⟨rfl, (rfl : _ = Value.bool _)⟩, trivial⟩ ?_))))))))))))))
  first
    | exact ⟨g, last, B, hgl, hll, hkt, hz, hs.tail, .inl ⟨rfl, i, hi, zD3 hpos (by assumption), hln, hJ⟩⟩
    | exact ⟨g, _, B1, hgl, hgl, hkt, hz, hs.tail, .inl ⟨rfl, i + 1, zB8 hpos2, zBx hpos2, hnc, hJ1⟩⟩
    | exact ⟨g, _, B1, hgl, hgl, hkt, hz, hs.tail, .inr ⟨rfl, hJ1⟩⟩
    | exact ⟨g2, last2, B2, hg2, hl2, zBu hk2 hpl, hz2, hs.tail, .inr ⟨rfl, hJ2⟩⟩
    | (rw [zDq (by omega), List.nil_append] at hpos
       rw [zDr (by omega), List.nil_append] at hlast
       exact ⟨g, last, B, hgl, hll, hkt, hz, hs.tail, .inl ⟨rfl, i, hi, hpos, hlast, hJ⟩⟩)

end Go.Proofs.Uc
set_option maxRecDepth 20000
namespace Go.Proofs.Uc
open Go.Proofs.Tryz
open Go.Rt Go.Rt.Cm
open Go.Rt.Ha (felt spanL upto zBv listL bit Bunch zB8 zCi zBx zB2 zCg zCf zBu)
attribute [local irreducible] WL WC Con Yd At Ats Sl Agree DW

theorem next_all {w0 : World} {F : List (Nat × Obj)} (f : File) (p : AtF) (but cb mm : Nat) (hk : CK w0 F f p but cb mm)  (bp bl bla bsn bY bn : Nat) (h1 : Ats w0 F bp 0 [.pointer (some ⟨cb, 0, none⟩)]) (Ls : List (List Int)) (J : Nat → List (Nat × Obj) → Prop) (Js : List (Nat × Obj) → Prop) (yv : Value) (hy : ∀ (i : Nat) (x : List Int) (R : List (List Int)) (B X : List (Nat × Obj)) (w : World), Ls.drop i = x :: R → J i B → St w0 w (X ++ (B ++ F)) → FCon Tryz.prog yv [ia x] w fun v w' => ∃ B', St w0 w' (X ++ (B' ++ F)) ∧ (v = .bool true ∧ J (i + 1) B' ∨ v = .bool false ∧ Js B')) (rem : Nat) : NextC f but cb bp bl bla bsn bY bn Ls J Js yv w0 F rem := by
  induction rem with
  | zero => exact c90 f p but cb mm hk bp bl bla bsn bY bn h1 Ls J Js yv hy 0 (fun r h => by omega)
  | succ r ih => exact c90 f p but cb mm hk bp bl bla bsn bY bn h1 Ls J Js yv hy (r + 1) (fun q h => by have : q = r := (by omega); subst this; exact ih)
theorem iter_lists {w0 : World} {F : List (Nat × Obj)} {Ls : List (List Int)} {J : Nat → List (Nat × Obj) → Prop} {Js : List (Nat × Obj) → Prop} {yv : Value}
    (hy : ∀ i (hi : i < (Ls.map ia).length) B X w, J i B → St w0 w (X ++ (B ++ F)) → FCon Tryz.prog yv [(Ls.map ia)[i]] w fun v w' => ∃ B', St w0 w' (X ++ (B' ++ F)) ∧ (v = .bool true ∧ J (i + 1) B' ∨ v = .bool false ∧ Js B')) :
    ∀ (i : Nat) (x : List Int) (R : List (List Int)) (B X : List (Nat × Obj)) (w : World), Ls.drop i = x :: R → J i B → St w0 w (X ++ (B ++ F)) → FCon Tryz.prog yv [ia x] w fun v w' => ∃ B', St w0 w' (X ++ (B' ++ F)) ∧ (v = .bool true ∧ J (i + 1) B' ∨ v = .bool false ∧ Js B') := by
  intro i x R B X w hd hJ hs
  have := hy i (by simpa using zB8 hd) B X w hJ hs
  rw [List.getElem_map, zCi hd] at this
  exact this
theorem zDv {w0 : World} {F : List (Nat × Obj)} (f : File) (p : AtF) (but cb mm : Nat) (hk : CK w0 F f p but cb mm) (bp : Nat) (h1 : Ats w0 F bp 0 [.pointer (some ⟨cb, 0, none⟩)]) : Iter Tryz.prog 88 [] [.pointer (some ⟨bp, 0, none⟩)] ((truths f but).map ia) w0 F := by
  intro J Js yv B X w hyv hy hJ hs
  obtain ⟨yf, ya, yb, rfl⟩ := hyv
  have hll := hk.ok.ll
  show Con Tryz.prog 88 [.func yf ya yb, .pointer (some ⟨bp, 0, none⟩)] w _
  refine zAo (n := 13) func88 rfl rfl (zNl rfl) ?_
  refine zAf (fun K2 g4 => (zAb (zCj (v := .func _ _ _) (cs := [_]) zAa rfl rfl rfl hs (fun b3 w4 g0 => ?_))))
  refine zAd (zAc (g4 _ _ (zAf (fun K7 g5 => (zAb (w_p (zAg isAgg114 g0.tail.drop.drop rfl rfl h1) rfl (w_p (zCc (fv := [_]) (cv := []) rfl rfl rfl rfl) rfl (zA1 (cs := [_]) zAa zeroValue148 rfl g0 (fun b8 w9 g6 => ?_)))))))))
  refine zBj 0 (.func _ _ _) [_] sizeOf148 g6 (fun gm g7 => ?_)
  refine zAd (zAc (g5 _ _ (zAf (fun gn g8 => (zAb (zA1 (cs := iv [0,0,0,0]) zAa zeroValue121 rfl g7 (fun g9 go ga => ?_)))))))
  refine zA1 (cs := iv [0,0,0,0]) zAa zeroValue121 rfl ga (fun gc gp gd => ?_)
  refine zAd (zAc (g8 _ _ (zAf (fun gq ge => (zAb (w_p (zCw underlying121 sizeOf3 rfl rfl rfl rfl (i := 0) rfl (by omega)) rfl (zDp (i := 0) (j := 0) zAa sizeOf3 rfl rfl rfl rfl gd rfl (by first | omega | rfl | (simp only [zL] <;> omega)) (fun gt gf => ?_))))))))
  refine zAd (zAc (ge _ _ (zAf (fun gu gg => (zAb (zA1 (cs := [_]) zAa zeroValue111 rfl gf (fun gh gv gi => ?_)))))))
  refine zAd (zAc (gg _ _ (zAf (fun gw gj => (zAb (w_p (zCc (fv := []) (cv := [_,_,_,_,_,_]) rfl rfl rfl rfl) rfl (zBj 0 (.func _ _ _) [_] sizeOf111 gi (fun gx g3 => ?_))))))))
  refine zAd (zAc (gj _ _ (zAb (w_p (zAg isAgg111 g3 rfl rfl (aow 0 [_])) rfl ?_))))
  refine zA4 zAa call90 rfl rfl rfl rfl (next_all f p but cb mm hk bp g9 gc b8 b3 gh h1 (truths f but) J Js (.func yf ya yb) (iter_lists hy) f.lots.length 0 [] (List.replicate 4 0) [-1,0,0,0] 0 [] [] B X _ (by omega) rfl (fun j hj => by omega) rfl rfl (fun j _ => by match j with | 0 => rfl | 1 => rfl | 2 => rfl | 3 => rfl | _ + 4 => rfl) (by omega) (by rw [List.append_nil, segK_all]; rfl) rfl (by rw [List.append_nil]; exact all_nodup hk.ok) (by rw [List.append_nil]; exact zH5 hk.ok) hJ g3) ?_
  rintro _ gy ⟨g2, last2, B2, _,_,_,_, gk, hB2⟩
  refine zAd (q_end (l := []) (vs := []) rfl trivial ?_)
  refine ⟨B2, gk.tail.tail.tail.tail.tail, ?_⟩
  rcases hB2 with ⟨_, i', hi', hd', _, hJ'⟩ | ⟨_, hJ'⟩
  · left; rw [List.length_map, ← zB2 hi' hd']; exact hJ'
  · exact .inr hJ'

theorem c67 {w0 w : World} {F : List (Nat × Obj)} (cb : Nat) (hs : St w0 w F) :
  Con Tryz.prog 67 [.pointer (some ⟨cb, 0, none⟩)] w fun v w' => ∃ bp, v = .func (.func 88) #[] #[.pointer (some ⟨bp, 0, none⟩)] ∧ St w0 w' ((bp, blk 114 [.pointer (some ⟨cb, 0, none⟩)]) :: F) := by
  refine zAo (n := 4) func67 rfl rfl (zNl rfl) ?_
  refine zAf (fun K2 g0 => (zAb (zCj (v := .pointer _) (cs := [_]) zAa rfl rfl rfl hs (fun b3 w4 g3 => ?_))))
  refine zBi rfl rfl (zAd (zAc (g0 _ _ (zAf (fun K7 g4 => (zAb (w_p (zCc (fv := []) (cv := [_]) rfl rfl rfl rfl) rfl (w_p (zCu (v := .func _ _ _) rfl rfl) rfl ?_))))))))
  refine zAd (zAc (g4 _ _ (zA8 (zBa (l := [.tmp 2]) (vs := [_]) rfl ⟨⟨rfl, show _ = (.func _ _ _ : Value) from rfl⟩, trivial⟩ ?_))))
  exact ⟨_, rfl, g3⟩

theorem c77 {w0 w : World} {F : List (Nat × Obj)} (f : File) (p : AtF) (but cb mm : Nat) (hk : CK w0 F f p but cb mm)  (hs : St w0 w F) :
  Con Tryz.prog 77 [.pointer (some ⟨cb, 0, none⟩)] w fun v w' => v = .bool (!(truths f but).isEmpty) ∧ St w0 w' F := by
  refine zEa (n := 6) func77 rfl rfl (zNl rfl) ?_
  refine zAf (fun K2 g5 => (zAb (zA1 (cs := [_]) zAa zeroValue4 rfl hs (fun b3 w4 g6 => ?_))))
  refine zAd (zAc (g5 _ _ (zAf (fun K7 g7 => (zAf (fun K9 g8 => (zAb (w_p (zCn rfl rfl) rfl (zA4 zAa call67 rfl rfl rfl rfl (c67 _ g6) ?_)))))))))
  rintro _ gg ⟨bp, rfl, g9⟩
  refine zAd (zAc (g8 _ _ (zAq ?_)))
  refine zG0 ([_]) (fun i Bx => i = 0 ∧ Bx = [(b3, blk 4 [.bool false])]) (fun c Bx => c = .ret ∧ Bx = [(b3, blk 4 [.bool true])] ∧ 0 < (truths f but).length) rfl rfl rfl call88 (zDv f p but cb mm hk.cons bp (aow 0 [_])) g9 (List.Perm.swap _ _ _) ⟨rfl, rfl⟩ ?_ ?_ ?_
  ·
   intro lp i hi Bx Xr Xr2 gh hJ hs K ga
   obtain ⟨rfl, rfl⟩ := hJ
   have hi0 : 0 < (truths f but).length := by simpa using hi
   replace hs := (show St _ _ (_ :: (Xr ++ (_ :: F))) from hs)
   refine zAn (zAc (ga _ _ (_ :: []) hs (fun gi g4 => ?_)))
   replace g4 := (show St _ _ (_ :: Xr2 ++ (_ :: F)) from g4)
   refine zAq ?_
   refine zAf (fun gj gc => (zAb (zBj 0 (.bool _) [_] sizeOf4 g4 (fun gk gd => ?_))))
   refine zAd (zAc (gc _ _ (zA8 (zA9 (rd_ret (_ :: []) gd ?_)))))
   exact ⟨rfl, rfl, hi0⟩
  ·
   intro bd Bx gm hJ hs
   obtain ⟨h0, rfl⟩ := hJ
   rw [List.length_map] at h0
   refine zAi (zAc (g7 _ _ (zAf (fun gn ge => (zAb (zBj 1 (.bool _) [_] sizeOf4 hs (fun go gf => ?_)))))))
   refine zAd (zAc (ge _ _ (zA8 (zGa (i := 0) (l := [.cell 2 4]) (vs := [_]) gf rfl rfl (fun gp g0 => ⟨⟨⟨rfl, _, rfl, zEk isAgg4 g0 (aow 1 [_])⟩, trivial⟩, ?_⟩)))))
   first
     | exact ⟨congrArg Value.bool (by rw [List.length_eq_zero_iff.1 h0.symm]; rfl), g0.tail.tail.tail⟩
     | exact ⟨congrArg Value.bool (by rw [List.length_eq_zero_iff.1 h0]; rfl), g0.tail.tail.tail⟩
     | exact ⟨congrArg Value.bool (by cases hd : (truths f but) with | nil => rw [hd] at h0; simp at h0 | cons _ _ => rfl), g0.tail.tail.tail⟩
  intro bd c Bx gq hJ hs
  obtain ⟨rfl, rfl, h0⟩ := hJ
  refine zA8 (zA9 (zAl (zGa (i := 0) (l := [.cell 2 4]) (vs := [_]) hs rfl rfl (fun gt g3 => ⟨⟨⟨rfl, _, rfl, zEk isAgg4 g3 (aow 1 [_])⟩, trivial⟩, ?_⟩))))
  first
    | exact ⟨congrArg Value.bool (by rw [List.length_eq_zero_iff.1 h0.symm]; rfl), g3.tail.tail.tail⟩
    | exact ⟨congrArg Value.bool (by rw [List.length_eq_zero_iff.1 h0]; rfl), g3.tail.tail.tail⟩
    | exact ⟨congrArg Value.bool (by cases hd : (truths f but) with | nil => rw [hd] at h0; simp at h0 | cons _ _ => rfl), g3.tail.tail.tail⟩

end Go.Proofs.Uc
/- Plain words of the claim layer: which claims are paid, step by step. No conditions. -/
namespace Go.Rt.Cm
open Go.Rt.Ha (felt spanL upto bit listL fewest Bunch zD4 zC4 at_ zBv zDu upto_nodup zC2 bit01)
theorem shl5 {i : Nat} (h : i < 5) : 1 <<< i = 2 ^ i ∧ 1 <<< i ≤ 16 := Tu.shl5 h
theorem zGi {c x : Clm} {i k : Nat} : beatB c x i k = (decide ([x.lot, x.against, x.day] = [c.lot, c.against, x.day]) && (decide (x.day < c.day) || (decide (x.day = c.day) && decide (k < i)))) := by
  unfold beatB
  have : decide ([x.lot, x.against, x.day] = [c.lot, c.against, x.day]) = (decide (x.lot = c.lot) && decide (x.against = c.against)) := by rw [Bool.eq_iff_iff]; simp
  rw [this]
theorem beat_no1 {c x : Clm} {i k : Nat} (h : ¬ [x.lot, x.against, x.day] = [c.lot, c.against, x.day]) : beatB c x i k = false := by rw [zGi, decide_eq_false h]; rfl
theorem beat_no2 {c x : Clm} {i k : Nat} (h : ¬ x.day < c.day) (h2 : ¬ x.day = c.day) : beatB c x i k = false := by rw [zGi, decide_eq_false h, decide_eq_false h2]; simp
theorem beat_no3 {c x : Clm} {i k : Nat} (h : ¬ x.day < c.day) (h2 : ¬ k < i) : beatB c x i k = false := by rw [zGi, decide_eq_false h, decide_eq_false h2]; simp
theorem zGh {c x : Clm} {i k : Nat} (h : [x.lot, x.against, x.day] = [c.lot, c.against, x.day]) (h2 : x.day < c.day) : beatB c x i k = true := by rw [zGi, decide_eq_true h, decide_eq_true h2]; rfl
theorem zGg {c x : Clm} {i k : Nat} (h : [x.lot, x.against, x.day] = [c.lot, c.against, x.day]) (h2 : x.day = c.day) (h3 : k < i) : beatB c x i k = true := by rw [zGi, decide_eq_true h, decide_eq_true h2, decide_eq_true h3]; simp
theorem zEp {f : File} {i k : Nat} (hi : i < f.clms.length) (hk : k < f.clms.length) (h : beatTo f i k = false) (h2 : beatB f.clms[i] f.clms[k] i k = false) : beatTo f i (k + 1) = false := by rw [beatTo, zFr hi, zFr hk, h, h2]; rfl
theorem zEq {f : File} {i k : Nat} (hi : i < f.clms.length) (hk : k < f.clms.length) (h2 : beatB f.clms[i] f.clms[k] i k = true) : ∀ n, k < n → beatTo f i n = true
  | 0, hn => by omega
  | n + 1, hn => by
    by_cases e : k = n
    · subst e; rw [beatTo, zFr hi, zFr hk, h2, Bool.or_true]
    · rw [beatTo, zEq hi hk h2 n (by omega)]; rfl
theorem zHl {f : File} {x : List Int} {i n : Nat} (hi : i < f.clms.length) (hn : f.clms[i].lot = (n : Int)) (h : ¬ withP f x n = f.clms[i].against) : paidTo f x (i + 1) = paidTo f x i := by
  have e : f.clms[i].lot.toNat = n := by omega
  rw [paidTo, paidB, zFr hi, e, decide_eq_false h]; rfl
theorem zHk {f : File} {x : List Int} {i m : Nat} (hi : i < f.clms.length) (hm : f.clms[i].against = (m : Int)) (hu : m < f.until_.length) (h : ¬ f.clms[i].day ≤ f.until_[m]) : paidTo f x (i + 1) = paidTo f x i := by
  have e : f.clms[i].against.toNat = m := by omega
  have e2 : f.until_.getD m 0 = f.until_[m] := by simp [List.getD, hu]
  rw [paidTo, paidB, zFr hi, e, e2, decide_eq_false h]; simp
theorem zEw {f : File} {x : List Int} {i : Nat} (h : beatTo f i f.clms.length = true) : paidTo f x (i + 1) = paidTo f x i := by
  rw [paidTo, paidB, h]; simp
theorem zHj {f : File} {x : List Int} {i n m : Nat} (hi : i < f.clms.length) (hn : f.clms[i].lot = (n : Int)) (hm : f.clms[i].against = (m : Int)) (hu : m < f.until_.length) (h : withP f x n = f.clms[i].against) (h2 : f.clms[i].day ≤ f.until_[m]) (h3 : beatTo f i f.clms.length = false) : paidTo f x (i + 1) = paidTo f x i ||| (1 <<< i) := by
  have e : f.clms[i].lot.toNat = n := by omega
  have e1 : f.clms[i].against.toNat = m := by omega
  have e2 : f.until_.getD m 0 = f.until_[m] := by simp [List.getD, hu]
  rw [paidTo, paidB, zFr hi, e, e1, e2, decide_eq_true h, decide_eq_true h2, h3]; rfl
theorem paid_lt (f : File) (x : List Int) : ∀ i, i ≤ 5 → paidTo f x i < 2 ^ i
  | 0, _ => by simp [paidTo]
  | i + 1, h => by
    have ih := paid_lt f x i (by omega)
    have h2 := (shl5 (i := i) (by omega)).1
    have h3 : 2 ^ (i + 1) = 2 * 2 ^ i := by rw [Nat.pow_succ]; omega
    rw [paidTo]
    split
    · exact Nat.or_lt_two_pow (by omega) (by rw [h2, h3]; have := Nat.two_pow_pos i; omega)
    · omega
theorem paid_small (f : File) (x : List Int) {i : Nat} (h : i ≤ 5) : paidTo f x i < 32 := by
  have h1 := paid_lt f x i h
  have h2 : 2 ^ i ≤ 2 ^ 5 := Nat.pow_le_pow_right (by omega) h
  omega
theorem zId {f : File} (hf : f.Ok) (x : List Int) : paid f x < 32 := paid_small f x hf.lc
end Go.Rt.Cm
set_option maxRecDepth 20000
namespace Go.Proofs.Uc
open Go.Proofs.Tryz
open Go.Rt Go.Rt.Cm
open Go.Rt.Ha (felt spanL upto zBv listL bit Bunch zB8 zCi zBx zB2 zCg zCf zBu)
attribute [local irreducible] WL WC Con Yd At Ats Sl Agree DW
theorem Try_LF_fb2 (x0 : Int) (x1 : Int) (x2 : Int) (w : World) : (Instr.build 102 [(0, .int .i64 x0),(1, .int .i64 x1),(2, .int .i64 x2)].toArray).run Tryz.prog w = .ok (.agg #[.int .i64 x0, .int .i64 x1, .int .i64 x2]) w := by kernel_rfl
theorem Try_flat102 : flatInts Tryz.prog 102 3 = true := by kernel_rfl
theorem keyP : KeyTy Tryz.prog 121 4 := keyTy_array underlying121 underlying3 sizeOf3 (by kernel_rfl)
theorem iv2 {a b c d : Int} (h : a = b) (h2 : c = d) : [Value.int .i64 a, Value.int .i64 c] = [Value.int .i64 b, Value.int .i64 d] := by rw [h, h2]
def Memo (f : File) (mm : Nat) (M : List (Nat × Obj)) : Prop :=
  ∃ (es : List (List Int × Value × Nat)) (ck : Nat), M = [(mm, .map (ents (fun l : List Int => ia l) es).toArray ck)] ∧ MOk es ck ∧ (∀ q ∈ es, q.1.length = 4) ∧ ∀ q ∈ es, q.2.1 = .int .i64 ((paid f q.1 : Nat) : Int)
theorem zE1 (f : File) (mm : Nat) : Memo f mm [(mm, .map #[] 0)] := ⟨[], 0, rfl, mok_nil, by simp, by simp⟩
theorem c71f {w0 w : World} {F : List (Nat × Obj)} (f : File) (p : AtF) (but cb mm : Nat) (hk : CK w0 F f p but cb mm) (x : List Int) (hx : In4 f x) (es : List (List Int × Value × Nat)) (ck : Nat) (hes : ∀ q ∈ es, q.1.length = 4) (z : Int) (hf : getA x es = some (.int .i64 z)) (hs : St w0 w ((mm, .map (ents (fun l : List Int => ia l) es).toArray ck) :: F)) :
  Con Tryz.prog 71 [.pointer (some ⟨cb, 0, none⟩), ia x] w fun v w' => v = .int .i64 z ∧ St w0 w' ((mm, .map (ents (fun l : List Int => ia l) es).toArray ck) :: F) := by
  refine zAo (n := 109) func71 rfl rfl (zNl rfl) ?_
  have hb := hk.l
  have hfo := hk.ok
  have hlc := hfo.lc
  have hlu := hfo.lu
  have hnp := hfo.np
  have hx4 := hx.1
  refine zAf (fun K2 g3 => (zAb (zEi (l := _) zAa rfl rfl rfl hs (fun b3 w4 g4 => ?_))))
  refine zBi rfl rfl (zAd (zAc (g3 _ _ (w_scope ?_))))
  refine zAf (fun K7 g8 => (zAf (fun K9 g5 => (zCq [] [(0,0),(1,0),(2,0),(3,1),(4,1),(5,1),(6,0),(7,0),(8,0),(9,0),(10,0)] zB4 (zBk (by kernel_rfl)) g4 (fun g9 g0 => ?_)))))
  refine d_w rfl (fun _ => zCn rfl rfl) rfl (d_w rfl (fun _ => zB0 rfl rfl) rfl (d_w rfl (fun _ => zAe (o := 6) (i := 2) underlying151 rfl sizeOf149 rfl rfl rfl) rfl ?_))
  refine zAz rfl zAa rfl g0 (fun _ hq => (zAg isAgg149 hq.tail.tail rfl rfl (show Ats _ _ _ _ [_] from Ats.part hb 6 1))) ?_
  refine zAz rfl zAa rfl g0 (fun _ hq => (zCt (i := 0) isAgg121 sizeOf121 (by first | omega | rfl | (simp only [hx4, zL] <;> omega)) hq rfl rfl rfl)) ?_
  refine zAz rfl zAa rfl g0 (fun _ hq => (G_look2S (i := 1) (a := x) underlying149 (zIh keyP) hx.1 hes hq rfl rfl rfl rfl rfl hf)) ?_
  refine d_w rfl (fun _ => zA3 rfl rfl) rfl (d_w rfl (fun _ => zAk rfl rfl rfl) rfl (d_w rfl (fun _ => zE5 rfl rfl rfl) rfl (d_w rfl (fun _ => zA0 rfl rfl) rfl (d_w rfl (fun _ => zAs rfl rfl) rfl ?_))))
  refine zBm ?_
  refine zAc (g5 _ _ (zAf (fun ga g6 => (zAb (w_p (zAt rfl rfl) rfl (zAd (zAc (g6 _ _ (zDb rfl rfl ?_)))))))))
  refine zAf (fun gc g7 => (zAb (zA6 rfl rfl (zBw rfl rfl (zAd (zAc (g7 _ _ (zA8 (zAl (zHi ?_))))))))))
  refine zBa (l := [.tmp 4]) (vs := [_]) rfl ⟨⟨rfl, (rfl : _ = Value.int _ _)⟩, trivial⟩ ?_
  exact ⟨rfl, g0.tail⟩

theorem c71n {w0 w : World} {F : List (Nat × Obj)} (f : File) (p : AtF) (but cb mm : Nat) (hk : CK w0 F f p but cb mm) (x : List Int) (hx : In4 f x) (es : List (List Int × Value × Nat)) (ck : Nat) (hes : ∀ q ∈ es, q.1.length = 4) (hf : getA x es = none) (hs : St w0 w ((mm, .map (ents (fun l : List Int => ia l) es).toArray ck) :: F)) :
  Con Tryz.prog 71 [.pointer (some ⟨cb, 0, none⟩), ia x] w fun v w' => v = .int .i64 ((paid f x : Nat) : Int) ∧ St w0 w' ((mm, .map (ents (fun l : List Int => ia l) (putA x v ck es)).toArray (if idxA x es 0 = none then ck + 1 else ck)) :: F) := by
  refine zAo (n := 109) func71 rfl rfl (zNl rfl) ?_
  have hb := hk.l
  have hfo := hk.ok
  have hlc := hfo.lc
  have hlu := hfo.lu
  have hnp := hfo.np
  have hx4 := hx.1
  refine zAf (fun K2 gy => (zAb (zEi (l := _) zAa rfl rfl rfl hs (fun b3 w4 gz => ?_))))
  refine zBi rfl rfl (zAd (zAc (gy _ _ (w_scope ?_))))
  refine zAf (fun K7 gA => (zAf (fun K9 gB => (zCq [] [(0,0),(1,0),(2,0),(3,1),(4,1),(5,1),(6,0),(7,0),(8,0),(9,0),(10,0)] zB4 (zBk (by kernel_rfl)) gz (fun gY g4 => ?_)))))
  refine d_w rfl (fun _ => zCn rfl rfl) rfl (d_w rfl (fun _ => zB0 rfl rfl) rfl (d_w rfl (fun _ => zAe (o := 6) (i := 2) underlying151 rfl sizeOf149 rfl rfl rfl) rfl ?_))
  refine zAz rfl zAa rfl g4 (fun _ hq => (zAg isAgg149 hq.tail.tail rfl rfl (show Ats _ _ _ _ [_] from Ats.part hb 6 1))) ?_
  refine zAz rfl zAa rfl g4 (fun _ hq => (zCt (i := 0) isAgg121 sizeOf121 (by first | omega | rfl | (simp only [hx4, zL] <;> omega)) hq rfl rfl rfl)) ?_
  refine zAz rfl zAa rfl g4 (fun _ hq => (G_look2N (i := 1) (a := x) underlying149 (zIh keyP) hx.1 hes (show ∀ w, (zeroValue 3).run Tryz.prog w = .ok (.int .i64 0) w from zeroValue3) hq rfl rfl rfl rfl rfl hf)) ?_
  refine d_w rfl (fun _ => zA3 rfl rfl) rfl (d_w rfl (fun _ => zAk rfl rfl rfl) rfl (d_w rfl (fun _ => zE5 rfl rfl rfl) rfl (d_w rfl (fun _ => zA0 rfl rfl) rfl (d_w rfl (fun _ => zAs rfl rfl) rfl ?_))))
  refine zBm ?_
  refine zAc (gB _ _ (zAf (fun gZ gC => (zAb (w_p (zAt rfl rfl) rfl (zAd (zAc (gC _ _ (zBs rfl rfl ?_)))))))))
  refine zAn (zAc (gA _ _ (zAf (fun hD gD => (w_label ?_)))))
  refine zAc (gD _ _ (zAf (fun hN gE => (zAf (fun hP gF => (zAb (w_p (zCn rfl rfl) rfl (w_p (zB0 rfl rfl) rfl (w_p (zAe (o := 0) (i := 0) underlying151 rfl sizeOf56 rfl rfl rfl) rfl ?_)))))))))
  refine w_p (zAe (o := 4) (i := 4) underlying56 rfl sizeOf54 rfl rfl rfl) rfl (w_p (zAg isAgg54 g4.tail.tail rfl rfl (show Ats _ _ _ _ [_] from Ats.part hb 4 1)) rfl (w_p (zBc underlying54 rfl rfl) rfl (w_p (zBy (v := _) rfl rfl) rfl (zAd (zAc (gF _ _ (zAq ?_)))))))
  refine zB6 [4,7,8,9,10,11,29,30,31,32,33,34,35,36,37,38,39,40,41,42,43,44,45,46,47,48,49,50,51,52,53,54,55,56,57,58,59,60,61,62,63,64,65,66,67,68,69,70,71,72,73,74,75,76,77,78,79,80,81,82,83,84,85,86,87,88,89,90,91,92,93,94,95,96,97,98,99,100,101] [4,29] (fun kk vs w => ∃ i : Nat, vs = [.int .i64 ((paidTo f x i : Nat) : Int), .int .i64 (i : Int)] ∧ i ≤ f.clms.length ∧ kk = f.clms.length - i ∧ St w0 w ((b3, blk 121 (iv x)) :: (mm, .map (ents (fun l : List Int => ia l) es).toArray ck) :: F)) (f.clms.length) ?_ ?_
  ·
   exact ⟨0, rfl, by omega, by omega, g4⟩
  intro k vs μ hX hI hY g5
  clear hs
  obtain ⟨i, rfl, hia, rfl, hs⟩ := hI
  refine zAf (fun j0 gG => (zAb (w_p (zCp rfl rfl rfl rfl) rfl (zAd (zAc (gG _ _ (zAf (fun j1 gH => (zAr rfl rfl (fun gg => ?_) (fun gg => ?_))))))))))
  ·
   try simp only [zS] at gg
   refine zAn (zAc (gH _ _ (zAf (fun j3 g6 => (zAq ?_)))))
   refine zAf (fun j4 gI => ?_)
   have hi2 : i < f.clms.length := by omega
   obtain ⟨bn, on, hbn, hxn⟩ := sl_clm hk.i.c hi2
   have hcc := hfo.clm _ (List.getElem_mem hi2)
   obtain ⟨no, hno⟩ : ∃ no : Nat, f.clms[i].lot = (no : Int) := ⟨f.clms[i].lot.toNat, by omega⟩
   obtain ⟨mo, hmo⟩ : ∃ mo : Nat, f.clms[i].against = (mo : Int) := ⟨f.clms[i].against.toNat, by omega⟩
   have hl2 : no < f.lots.length := by omega
   have hu2 : mo < f.until_.length := by omega
   obtain ⟨bu, ou, hbu, hu⟩ := zCx hk.i.u hu2
   have hps := paid_small f x (i := i) (by omega)
   have hsh := (shl5 (i := i) (by omega)).2
   refine zAb (zA6 rfl rfl (w_p (zA7 underlying54 sizeOf102 rfl rfl (Eq.trans (show _ = Value.slice p.ac f.clms.length p.cc from rfl) (by rw [hbn])) rfl (b := bn) (off := on) (i := i) rfl hi2) rfl ?_))
   refine w_p (zA2 (vs := [_,_,_]) isAgg102 sizeOf102 hs.tail.tail rfl rfl hxn) rfl (zA1 (cs := [_,_,_]) zAa zeroValue102 rfl hs (fun gJ j5 gK => ?_))
   refine zBw rfl rfl (zBj 0 (.agg #[.int _ _, .int _ _, .int _ _]) [_,_,_] sizeOf102 gK (fun j6 gL => ?_))
   refine zAd (zAc (gI _ _ (zAf (fun j7 gM => (zAf (fun j8 gx => (zCq [] [(0,0),(1,1),(2,0),(3,1),(5,0),(6,1),(4,2),(7,0),(8,0),(9,0),(10,1),(11,0),(12,0),(13,0),(14,0),(15,1),(16,0),(17,1),(18,0),(19,1),(20,0),(21,0)] zB4 (zBk (by kernel_rfl)) gL (fun j9 gd => ?_))))))))
   refine d_w rfl (fun _ => zCn rfl rfl) rfl ?_
   refine zAz rfl zAa rfl gd (fun _ hq => (zCt (i := 1) isAgg121 sizeOf121 (by first | omega | rfl | (simp only [hx4, zL] <;> omega)) hq rfl rfl rfl)) ?_
   refine d_w rfl (fun _ => zAe (o := 0) (i := 0) underlying102 rfl sizeOf3 rfl rfl rfl) rfl ?_
   refine zAz rfl zAa rfl gd (fun _ hq => (zHz hno (zAg isAgg3 hq rfl rfl (aow 0 [_])))) ?_
   refine d_w rfl (fun _ => zAe (o := 1) (i := 1) underlying102 rfl sizeOf3 rfl rfl rfl) rfl ?_
   refine zAz rfl zAa rfl gd (fun _ hq => (zAg isAgg3 hq rfl rfl (aow 0 [_]))) ?_
   refine zBh rfl ?_
   refine zCo zAa call68 rfl rfl rfl rfl (c68 f p but cb mm hk.cons.cons.cons x hx no hl2 gd) (fun ja g0 => ?_)
   refine zAd (qn ⟨g0, ?_⟩)
   refine d_w rfl (fun _ => zCs rfl rfl rfl rfl) rfl (d_w rfl (fun _ => zAt rfl rfl) rfl ?_)
   refine zC6 (fun gh => ?_) (fun gh => ?_)
   ·
    try simp only [zS] at gh
    refine zBl rfl rfl rfl rfl ?_
    refine zCb rfl rfl rfl rfl g0 ?_
    refine zBl rfl rfl rfl rfl ?_
    refine zBl rfl rfl rfl rfl ?_
    refine zBl rfl rfl rfl rfl ?_
    refine zBl rfl rfl rfl rfl ?_
    refine zCb rfl rfl rfl rfl g0 ?_
    refine zBl rfl rfl rfl rfl ?_
    refine zCb rfl rfl rfl rfl g0 ?_
    refine zBl rfl rfl rfl rfl ?_
    refine zCb rfl rfl rfl rfl g0 ?_
    refine zBl rfl rfl rfl rfl ?_
    refine d_w rfl (fun _ => zA5 (v := _) rfl rfl rfl rfl) rfl ?_
    refine zBm ?_
    refine zAc (gx _ _ (zDb rfl rfl ?_))
    refine zBt (zAj (zAv (zAc (g6 _ _ (zAb (w_p (zBo rfl rfl rfl rfl (by omega) (by omega)) rfl (zA6 rfl rfl (zAd (zAc (g5 _ _ (nxI (f.clms.length - (i + 1)) (by omega) ?_)))))))))))
    have g7 := (show St _ _ (_ :: _ :: F) from g0.tail)
    first
      | exact ⟨i + 1, iv2 (by rw [zHl hi2 hno (by assumption)]) rfl, by omega, rfl, g7⟩
      | exact ⟨i + 1, iv2 (by rw [zHk hi2 hmo hu2 (by omega)]) rfl, by omega, rfl, g7⟩
      | exact ⟨i + 1, iv2 (by rw [zEw (zEq hi2 hk2 (zGh (by assumption) (by assumption)) _ hk2)]) rfl, by omega, rfl, g7⟩
      | exact ⟨i + 1, iv2 (by rw [zEw (zEq hi2 hk2 (zGg (by assumption) (by assumption) (by omega)) _ hk2)]) rfl, by omega, rfl, g7⟩
      | exact ⟨i + 1, iv2 (by rw [zHj hi2 hno hmo hu2 (by omega) (by omega) (by have hkl : k = f.clms.length := (by omega); subst hkl; exact hbt)]) rfl, by omega, rfl, g7⟩
   try simp only [zS] at gh
   refine zBe rfl (zAh rfl rfl rfl) rfl (fun _ => (zAe (o := 2) (i := 2) underlying102 rfl sizeOf3 rfl rfl rfl)) ?_
   refine zAz rfl (zAh rfl rfl rfl) rfl g0 (fun _ hq => (zAg isAgg3 hq rfl rfl (aow 0 [_]))) ?_
   refine zBe rfl (zAh rfl rfl rfl) rfl (fun _ => (zCn rfl rfl)) ?_
   refine zBe rfl (zAh rfl rfl rfl) rfl (fun _ => (zB0 rfl rfl)) ?_
   refine zBe rfl (zAh rfl rfl rfl) rfl (fun _ => (zAe (o := 0) (i := 0) underlying151 rfl sizeOf56 rfl rfl rfl)) ?_
   refine zBe rfl (zAh rfl rfl rfl) rfl (fun _ => (zAe (o := 1) (i := 1) underlying56 rfl sizeOf22 rfl rfl rfl)) ?_
   refine zAz rfl (zAh rfl rfl rfl) rfl g0 (fun _ hq => (zCl hbu (zAg isAgg22 hq.tail.tail.tail rfl rfl (show Ats _ _ _ _ [_] from Ats.part hb 1 1)))) ?_
   refine zBe rfl (zAh rfl rfl rfl) rfl (fun _ => (zAe (o := 1) (i := 1) underlying102 rfl sizeOf3 rfl rfl rfl)) ?_
   refine zAz rfl (zAh rfl rfl rfl) rfl g0 (fun _ hq => (zAg isAgg3 hq rfl rfl (aow 0 [_]))) ?_
   refine zBe rfl (zAh rfl rfl rfl) rfl (fun _ => (zA7 underlying22 sizeOf3 rfl rfl rfl rfl (i := mo) hmo hu2)) ?_
   refine zAz rfl (zAh rfl rfl rfl) rfl g0 (fun _ hq => (zAg isAgg3 hq.tail.tail.tail rfl rfl hu)) ?_
   refine zBe rfl (zAh rfl rfl rfl) rfl (fun _ => (zEf rfl rfl rfl rfl)) ?_
   refine d_w rfl (fun _ => zBg (v := .bool _) rfl rfl rfl rfl) rfl ?_
   refine zBm ?_
   refine zAc (gx _ _ (zAr rfl rfl (fun gi => ?_) (fun gi => ?_)))
   ·
    try simp only [zS] at gi
    refine zBt (zAj (zAv (zAc (g6 _ _ (zAb (w_p (zBo rfl rfl rfl rfl (by omega) (by omega)) rfl (zA6 rfl rfl (zAd (zAc (g5 _ _ (nxI (f.clms.length - (i + 1)) (by omega) ?_)))))))))))
    have g8 := (show St _ _ (_ :: _ :: F) from g0.tail)
    first
      | exact ⟨i + 1, iv2 (by rw [zHl hi2 hno (by assumption)]) rfl, by omega, rfl, g8⟩
      | exact ⟨i + 1, iv2 (by rw [zHk hi2 hmo hu2 (by omega)]) rfl, by omega, rfl, g8⟩
      | exact ⟨i + 1, iv2 (by rw [zEw (zEq hi2 hk2 (zGh (by assumption) (by assumption)) _ hk2)]) rfl, by omega, rfl, g8⟩
      | exact ⟨i + 1, iv2 (by rw [zEw (zEq hi2 hk2 (zGg (by assumption) (by assumption) (by omega)) _ hk2)]) rfl, by omega, rfl, g8⟩
      | exact ⟨i + 1, iv2 (by rw [zHj hi2 hno hmo hu2 (by omega) (by omega) (by have hkl : k = f.clms.length := (by omega); subst hkl; exact hbt)]) rfl, by omega, rfl, g8⟩
   try simp only [zS] at gi
   refine zAn (zAc (gM _ _ (zAf (fun jb gN => (zAf (fun jc gO => (zAb (w_p (zCn rfl rfl) rfl (w_p (zB0 rfl rfl) rfl (w_p (zAe (o := 0) (i := 0) underlying151 rfl sizeOf56 rfl rfl rfl) rfl ?_))))))))))
   refine w_p (zAe (o := 4) (i := 4) underlying56 rfl sizeOf54 rfl rfl rfl) rfl (w_p (zAg isAgg54 g0.tail.tail.tail rfl rfl (show Ats _ _ _ _ [_] from Ats.part hb 4 1)) rfl (w_p (zBc underlying54 rfl rfl) rfl (w_p (zBy (v := _) rfl rfl) rfl (zAd (zAc (gO _ _ (zAq ?_)))))))
   refine zB6 [9,10,11,62,63,64,65,66,67,68,69,70,71,72,73,74,75,76,77,78,79,80,81,82,83,84,85,86,87,88,89,90,91,92,93,94,95,96] [62] (fun kk vs w => ∃ k : Nat, vs = [.int .i64 (k : Int)] ∧ k ≤ f.clms.length ∧ kk = f.clms.length - k ∧ beatTo f i k = false ∧ St w0 w ((gJ, blk 102 f.clms[i].cells) :: (b3, blk 121 (iv x)) :: (mm, .map (ents (fun l : List Int => ia l) es).toArray ck) :: F)) (f.clms.length) ?_ ?_
   ·
    exact ⟨0, rfl, by omega, by omega, rfl, g0⟩
   intro k vs μ jd hI je gj
   clear hs
   obtain ⟨k, rfl, hka, rfl, hbt, hs⟩ := hI
   refine zAf (fun jf gP => (zAb (w_p (zCp rfl rfl rfl rfl) rfl (zAd (zAc (gP _ _ (zAf (fun jg gQ => (zAr rfl rfl (fun gk => ?_) (fun gk => ?_))))))))))
   ·
    try simp only [zS] at gk
    refine zAn (zAc (gQ _ _ (zAf (fun jh gm => (zAq ?_)))))
    refine zAf (fun ji gR => ?_)
    have hk2 : k < f.clms.length := by omega
    obtain ⟨bm, om, hbm, hxk⟩ := sl_clm hk.i.c hk2
    refine zAb (zA6 rfl rfl (w_p (zA7 underlying54 sizeOf102 rfl rfl (Eq.trans (show _ = Value.slice p.ac f.clms.length p.cc from rfl) (by rw [hbm])) rfl (b := bm) (off := om) (i := k) rfl hk2) rfl ?_))
    refine w_p (zA2 (vs := [_,_,_]) isAgg102 sizeOf102 hs.tail.tail.tail rfl rfl hxk) rfl (zA1 (cs := [_,_,_]) zAa zeroValue102 rfl hs (fun jj jk gS => ?_))
    refine zBw rfl rfl (zBj 0 (.agg #[.int _ _, .int _ _, .int _ _]) [_,_,_] sizeOf102 gS (fun jl ge => ?_))
    refine zAd (zAc (gR _ _ (zAf (fun jm gT => (zAb (w_p (zAe (o := 0) (i := 0) underlying102 rfl sizeOf3 rfl rfl rfl) rfl (w_p (zAg isAgg3 ge rfl rfl (aow 1 [_])) rfl ?_)))))))
    refine w_p (zAe (o := 1) (i := 1) underlying102 rfl sizeOf3 rfl rfl rfl) rfl (w_p (zAg isAgg3 ge rfl rfl (aow 1 [_])) rfl (w_p (zAe (o := 2) (i := 2) underlying102 rfl sizeOf3 rfl rfl rfl) rfl (w_p (zAg isAgg3 ge rfl rfl (aow 0 [_])) rfl ?_)))
    refine w_p (zB1 (ps := [(0, _),(1, _),(2, _)]) (pv := [(0, .int _ _),(1, .int _ _),(2, .int _ _)]) rfl rfl (fun w => Try_LF_fb2 _ _ _ w)) rfl (zA1 (cs := [_,_,_]) zAa zeroValue102 rfl ge (fun jo jp gU => ?_))
    refine zBj 0 (.agg #[.int _ _, .int _ _, .int _ _]) [_,_,_] sizeOf102 gU (fun jq g3 => ?_)
    refine zAd (zAc (gT _ _ (zAf (fun jr gf => (zAb (w_p (zA2 (vs := [_,_,_]) isAgg102 sizeOf102 g3 rfl rfl (aow 1 [_,_,_])) rfl (w_p (zA2 (vs := [_,_,_]) isAgg102 sizeOf102 g3 rfl rfl (aow 0 [_,_,_])) rfl ?_)))))))
    refine w_p (zFt (l := [_,_,_]) (m := [_,_,_]) eqGuardType102 Try_flat102 (by first | omega | rfl | (simp only [hx4, zL] <;> omega)) (by first | omega | rfl | (simp only [hx4, zL] <;> omega)) rfl rfl rfl rfl rfl rfl) rfl ?_
    refine w_p (zAt rfl rfl) rfl (zB5 (fun gn => ?_) (fun gn => ?_))
    ·
     try simp only [zS] at gn
     refine w_y rfl rfl rfl (zAe (o := 2) (i := 2) underlying102 rfl sizeOf3 rfl rfl rfl) rfl ?_
     refine w_y rfl rfl rfl (zAg isAgg3 g3 rfl rfl (aow 1 [_])) rfl ?_
     refine w_y rfl rfl rfl (zAe (o := 2) (i := 2) underlying102 rfl sizeOf3 rfl rfl rfl) rfl ?_
     refine w_y rfl rfl rfl (zAg isAgg3 g3 rfl rfl (aow 2 [_])) rfl ?_
     refine w_y rfl rfl rfl (zCp rfl rfl rfl rfl) rfl ?_
     refine w_y rfl rfl rfl (zAt rfl rfl) rfl ?_
     refine zB5 (fun go => ?_) (fun go => ?_)
     ·
      try simp only [zS] at go
      refine zAm rfl rfl rfl ?_
      refine zAm rfl rfl rfl ?_
      refine zAm rfl rfl rfl ?_
      refine zAm rfl rfl rfl ?_
      refine zAm rfl rfl rfl ?_
      refine zAm rfl rfl rfl ?_
      refine zBd rfl rfl rfl ?_
      refine zBd rfl rfl rfl ?_
      refine zBd rfl rfl rfl ?_
      refine zAm rfl rfl rfl ?_
      refine w_y rfl rfl rfl (zA5 (v := _) rfl rfl rfl rfl) rfl ?_
      refine w_p (zA5 (v := .bool _) rfl rfl rfl rfl) rfl (zAd (zAc (gf _ _ (zDb rfl rfl ?_))))
      refine zBt (zDw rfl ?_)
      refine zAj (zAj (zDw rfl ?_))
      refine zAj (zAv (zAc (g6 _ _ (zAb (w_p (zBo rfl rfl rfl rfl (by omega) (by omega)) rfl (zA6 rfl rfl (zAd (zAc (g5 _ _ (nxI (f.clms.length - (i + 1)) (by omega) ?_))))))))))
      have g9 := (show St _ _ (_ :: _ :: F) from g3.tail.tail.tail)
      first
        | exact ⟨i + 1, iv2 (by rw [zHl hi2 hno (by assumption)]) rfl, by omega, rfl, g9⟩
        | exact ⟨i + 1, iv2 (by rw [zHk hi2 hmo hu2 (by omega)]) rfl, by omega, rfl, g9⟩
        | exact ⟨i + 1, iv2 (by rw [zEw (zEq hi2 hk2 (zGh (by assumption) (by assumption)) _ hk2)]) rfl, by omega, rfl, g9⟩
        | exact ⟨i + 1, iv2 (by rw [zEw (zEq hi2 hk2 (zGg (by assumption) (by assumption) (by omega)) _ hk2)]) rfl, by omega, rfl, g9⟩
        | exact ⟨i + 1, iv2 (by rw [zHj hi2 hno hmo hu2 (by omega) (by omega) (by have hkl : k = f.clms.length := (by omega); subst hkl; exact hbt)]) rfl, by omega, rfl, g9⟩
     try simp only [zS] at go
     refine w_y rfl rfl rfl (zAe (o := 2) (i := 2) underlying102 rfl sizeOf3 rfl rfl rfl) rfl ?_
     refine w_y rfl rfl rfl (zAg isAgg3 g3 rfl rfl (aow 1 [_])) rfl ?_
     refine w_y rfl rfl rfl (zAe (o := 2) (i := 2) underlying102 rfl sizeOf3 rfl rfl rfl) rfl ?_
     refine w_y rfl rfl rfl (zAg isAgg3 g3 rfl rfl (aow 2 [_])) rfl ?_
     refine w_y rfl rfl rfl (zCa rfl rfl rfl rfl) rfl ?_
     refine w_y rfl rfl rfl (zAt rfl rfl) rfl ?_
     refine zB5 (fun gp => ?_) (fun gp => ?_)
     ·
      try simp only [zS] at gp
      refine w_y rfl rfl rfl (zAy rfl rfl) rfl ?_
      refine w_y rfl rfl rfl (zAy rfl rfl) rfl ?_
      refine w_y rfl rfl rfl (zCp rfl rfl rfl rfl) rfl ?_
      refine w_y rfl rfl rfl (zA5 (v := .bool _) rfl rfl rfl rfl) rfl ?_
      refine w_y rfl rfl rfl (zBg (v := .bool _) rfl rfl rfl rfl) rfl ?_
      refine w_p (zA5 (v := .bool _) rfl rfl rfl rfl) rfl (zAd (zAc (gf _ _ (zAr rfl rfl (fun gq => ?_) (fun gq => ?_)))))
      ·
       try simp only [zS] at gq
       refine zBt (zDw rfl ?_)
       refine zAj (zAj (zDw rfl ?_))
       refine zAj (zAv (zAc (g6 _ _ (zAb (w_p (zBo rfl rfl rfl rfl (by omega) (by omega)) rfl (zA6 rfl rfl (zAd (zAc (g5 _ _ (nxI (f.clms.length - (i + 1)) (by omega) ?_))))))))))
       have ga := (show St _ _ (_ :: _ :: F) from g3.tail.tail.tail)
       first
         | exact ⟨i + 1, iv2 (by rw [zHl hi2 hno (by assumption)]) rfl, by omega, rfl, ga⟩
         | exact ⟨i + 1, iv2 (by rw [zHk hi2 hmo hu2 (by omega)]) rfl, by omega, rfl, ga⟩
         | exact ⟨i + 1, iv2 (by rw [zEw (zEq hi2 hk2 (zGh (by assumption) (by assumption)) _ hk2)]) rfl, by omega, rfl, ga⟩
         | exact ⟨i + 1, iv2 (by rw [zEw (zEq hi2 hk2 (zGg (by assumption) (by assumption) (by omega)) _ hk2)]) rfl, by omega, rfl, ga⟩
         | exact ⟨i + 1, iv2 (by rw [zHj hi2 hno hmo hu2 (by omega) (by omega) (by have hkl : k = f.clms.length := (by omega); subst hkl; exact hbt)]) rfl, by omega, rfl, ga⟩
      try simp only [zS] at gq
      refine zAn (zAi (zAc (gm _ _ (zAb (w_p (zBo rfl rfl rfl rfl (by omega) (by omega)) rfl (zA6 rfl rfl (zAd (zAc (gj _ _ (nxI (f.clms.length - (k + 1)) (by omega) ?_))))))))))
      have gt := (show St _ _ (_ :: _ :: _ :: F) from g3.tail.tail)
      first
        | exact ⟨k + 1, rfl, by omega, rfl, zEp hi2 hk2 hbt (beat_no1 (by assumption)), gt⟩
        | exact ⟨k + 1, rfl, by omega, rfl, zEp hi2 hk2 hbt (beat_no2 (by omega) (by assumption)), gt⟩
        | exact ⟨k + 1, rfl, by omega, rfl, zEp hi2 hk2 hbt (beat_no3 (by omega) (by omega)), gt⟩
     try simp only [zS] at gp
     refine zAm rfl rfl rfl ?_
     refine zAm rfl rfl rfl ?_
     refine zAm rfl rfl rfl ?_
     refine w_y rfl rfl rfl (zBg (v := _) rfl rfl rfl rfl) rfl ?_
     refine w_y rfl rfl rfl (zBg (v := .bool _) rfl rfl rfl rfl) rfl ?_
     refine w_p (zA5 (v := .bool _) rfl rfl rfl rfl) rfl (zAd (zAc (gf _ _ (zBs rfl rfl ?_))))
     refine zAn (zAi (zAc (gm _ _ (zAb (w_p (zBo rfl rfl rfl rfl (by omega) (by omega)) rfl (zA6 rfl rfl (zAd (zAc (gj _ _ (nxI (f.clms.length - (k + 1)) (by omega) ?_))))))))))
     have gu := (show St _ _ (_ :: _ :: _ :: F) from g3.tail.tail)
     first
       | exact ⟨k + 1, rfl, by omega, rfl, zEp hi2 hk2 hbt (beat_no1 (by assumption)), gu⟩
       | exact ⟨k + 1, rfl, by omega, rfl, zEp hi2 hk2 hbt (beat_no2 (by omega) (by assumption)), gu⟩
       | exact ⟨k + 1, rfl, by omega, rfl, zEp hi2 hk2 hbt (beat_no3 (by omega) (by omega)), gu⟩
    try simp only [zS] at gn
    refine zAm rfl rfl rfl ?_
    refine zAm rfl rfl rfl ?_
    refine zAm rfl rfl rfl ?_
    refine zAm rfl rfl rfl ?_
    refine zAm rfl rfl rfl ?_
    refine zAm rfl rfl rfl ?_
    refine zBd rfl rfl rfl ?_
    refine zBd rfl rfl rfl ?_
    refine zBd rfl rfl rfl ?_
    refine zBd rfl rfl rfl ?_
    refine zBd rfl rfl rfl ?_
    refine zBd rfl rfl rfl ?_
    refine zBd rfl rfl rfl ?_
    refine zBd rfl rfl rfl ?_
    refine zBd rfl rfl rfl ?_
    refine zBd rfl rfl rfl ?_
    refine zAm rfl rfl rfl ?_
    refine w_p (zBg (v := _) rfl rfl rfl rfl) rfl (zAd (zAc (gf _ _ (zBs rfl rfl ?_))))
    refine zAn (zAi (zAc (gm _ _ (zAb (w_p (zBo rfl rfl rfl rfl (by omega) (by omega)) rfl (zA6 rfl rfl (zAd (zAc (gj _ _ (nxI (f.clms.length - (k + 1)) (by omega) ?_))))))))))
    have gv := (show St _ _ (_ :: _ :: _ :: F) from g3.tail.tail)
    first
      | exact ⟨k + 1, rfl, by omega, rfl, zEp hi2 hk2 hbt (beat_no1 (by assumption)), gv⟩
      | exact ⟨k + 1, rfl, by omega, rfl, zEp hi2 hk2 hbt (beat_no2 (by omega) (by assumption)), gv⟩
      | exact ⟨k + 1, rfl, by omega, rfl, zEp hi2 hk2 hbt (beat_no3 (by omega) (by omega)), gv⟩
   try simp only [zS] at gk
   refine zBt (zAj (zAj (zAv (zAc (gN _ _ (zAb (zA6 rfl rfl (zA6 rfl rfl (w_p (y_shl (x := 1) (y := i) rfl rfl rfl rfl rfl (by first | rfl | omega) (by first | omega | exact zCr (by omega)) (by first | omega | exact zCr (by omega))) rfl ?_)))))))))
   refine w_p (y_or (x := paidTo f x i) (y := 1 <<< i) rfl rfl rfl rfl (by first | rfl | omega) (by first | rfl | omega) (by first | omega | exact zCr (by omega)) (by first | omega | exact zCr (by omega))) rfl ?_
   refine zBw rfl rfl (zAd (zAi (zAc (g6 _ _ (zAb (w_p (zBo rfl rfl rfl rfl (by omega) (by omega)) rfl (zA6 rfl rfl (zAd (zAc (g5 _ _ (nxI (f.clms.length - (i + 1)) (by omega) ?_)))))))))))
   have gc := (show St _ _ (_ :: _ :: F) from hs.tail)
   first
     | exact ⟨i + 1, iv2 (by rw [zHl hi2 hno (by assumption)]) rfl, by omega, rfl, gc⟩
     | exact ⟨i + 1, iv2 (by rw [zHk hi2 hmo hu2 (by omega)]) rfl, by omega, rfl, gc⟩
     | exact ⟨i + 1, iv2 (by rw [zEw (zEq hi2 hk2 (zGh (by assumption) (by assumption)) _ hk2)]) rfl, by omega, rfl, gc⟩
     | exact ⟨i + 1, iv2 (by rw [zEw (zEq hi2 hk2 (zGg (by assumption) (by assumption) (by omega)) _ hk2)]) rfl, by omega, rfl, gc⟩
     | exact ⟨i + 1, iv2 (by rw [zHj hi2 hno hmo hu2 (by omega) (by omega) (by have hkl : k = f.clms.length := (by omega); subst hkl; exact hbt)]) rfl, by omega, rfl, gc⟩
  try simp only [zS] at gg
  refine zBt (zAj (zAj (zAv (zAc (gE _ _ (zAf (fun js gV => ?_)))))))
  have hil : i = f.clms.length := by omega
  subst hil
  refine zCq [6] [(0,0),(1,0),(2,0),(3,1),(4,1),(5,0),(6,3)] zB4 (zBk (by kernel_rfl)) hs (fun jt gw => ?_)
  refine d_w rfl (fun _ => zCn rfl rfl) rfl (d_w rfl (fun _ => zB0 rfl rfl) rfl (d_w rfl (fun _ => zAe (o := 6) (i := 2) underlying151 rfl sizeOf149 rfl rfl rfl) rfl ?_))
  refine zAz rfl zAa rfl gw (fun _ hq => (zAg isAgg149 hq.tail.tail rfl rfl (show Ats _ _ _ _ [_] from Ats.part hb 6 1))) ?_
  refine zAz rfl zAa rfl gw (fun _ hq => (zCt (i := 0) isAgg121 sizeOf121 (by first | omega | rfl | (simp only [hx4, zL] <;> omega)) hq rfl rfl rfl)) ?_
  refine d_w rfl (fun _ => zAy rfl rfl) rfl ?_
  refine zBr rfl ?_
  refine G_put (i := 1) (a := x) zAa underlying149 (zIh keyP) hx.1 hes rfl rfl rfl rfl rfl rfl gw rfl (fun ju gW => ?_)
  refine zAd (qn ?_)
  refine zBm ?_
  refine zAc (gV _ _ (zAf (fun jv gX => (zAb (zA6 rfl rfl (zBw rfl rfl (zAd (zAc (gX _ _ (zA8 (zHi ?_)))))))))))
  refine zBa (l := [.tmp 4]) (vs := [_]) rfl ⟨⟨rfl, (rfl : _ = Value.int _ _)⟩, trivial⟩ ?_
  exact ⟨rfl, gW.tail⟩

theorem zHt {α : Type} [DecidableEq α] {a : α} {u : Value} : ∀ {l : List (α × Value × Nat)}, getA a l = some u → ∃ q ∈ l, q.1 = a ∧ q.2.1 = u
  | [], h => by simp [getA] at h
  | q :: l, h => by
    by_cases e : q.1 = a
    · simp only [getA, if_pos e] at h
      exact ⟨q, .head _, e, by simpa using h⟩
    · simp only [getA, if_neg e] at h
      obtain ⟨x, hx, h1, h2⟩ := zHt h
      exact ⟨x, .tail _ hx, h1, h2⟩
theorem zI3 {w0 w : World} {X M F : List (Nat × Obj)} (f : File) (p : AtF) (but cb mm : Nat) (hk : CK w0 F f p but cb mm) (x : List Int) (hx : In4 f x) (hM : Memo f mm M) (hs : St w0 w (X ++ (M ++ F))) :
    Con Tryz.prog 71 [.pointer (some ⟨cb, 0, none⟩), ia x] w fun v w' => v = .int .i64 ((paid f x : Nat) : Int) ∧ ∃ M', Memo f mm M' ∧ St w0 w' (X ++ (M' ++ F)) := by
  obtain ⟨es, ck, rfl, hok, hlen, hes⟩ := hM
  have g3 : St w0 w ((mm, .map (ents (fun l : List Int => ia l) es).toArray ck) :: (X ++ F)) := hs.perm (zBp X [_] F)
  cases hf : getA x es with
  | none =>
    refine (c71n f p but cb mm hk.app x hx es ck hlen hf g3).mono ?_
    rintro v w' ⟨rfl, g0⟩
    refine ⟨rfl, [_], ⟨_, _, rfl, hok.put _ _, fun q hq => ?_, fun q hq => ?_⟩, g0.perm (zBp [_] X F)⟩
    · rcases zGn hq with ⟨h1, _⟩ | h
      · rw [h1]; exact hx.1
      · exact hlen q h
    · rcases zGn hq with ⟨h1, h2⟩ | h
      · rw [h1, h2]
      · exact hes q h
  | some u =>
    obtain ⟨q, hq, h1, h2⟩ := zHt hf
    have h3 := hes q hq
    rw [h1, h2] at h3
    subst h3
    refine (c71f f p but cb mm hk.app x hx es ck hlen _ hf g3).mono ?_
    rintro v w' ⟨rfl, g0⟩
    exact ⟨rfl, [_], ⟨es, ck, rfl, hok, hlen, hes⟩, g0.perm (zBp [_] X F)⟩
end Go.Proofs.Uc
/- Plain words of the claim layer: sets as lists, what is paid in all truths and in some. No conditions. -/
namespace Go.Rt.Cm
open Go.Rt.Ha (felt spanL upto bit listL fewest Bunch zD4 zC4 at_ zBv zDu upto_nodup zC2 bit01)
theorem zDx (b : Nat) : ∀ n, (listL b n).length ≤ n
  | 0 => by simp [listL]
  | n + 1 => by have := zDx b n; simp only [listL, List.length_append]; split <;> simp <;> omega
def listTo (b n k : Nat) : List Int := listL b k ++ List.replicate (n - (listL b k).length) 0
theorem zIg (b n k : Nat) (h : k ≤ n) : (listTo b n k).length = n := by have := zDx b k; simp [listTo]; omega
theorem listTo_zero (b n : Nat) : listTo b n 0 = List.replicate n 0 := by simp [listTo, listL]
theorem zGd {b k : Nat} (h : bit b k = 1) : listL b (k + 1) = listL b k ++ [(k : Int)] := by simp [listL, h]
theorem zHq {b k : Nat} (h : ¬ bit b k = 1) : listL b (k + 1) = listL b k := by simp [listL, h]
theorem listTo_yes {b n k : Nat} (hk : k < n) (h : bit b k = 1) : (listTo b n k).set (listL b k).length k = listTo b n (k + 1) := by
  have := zDx b k
  unfold listTo
  rw [zGd h, List.set_append_right _ _ (Nat.le_refl _), Nat.sub_self, List.length_append, List.length_singleton]
  obtain ⟨q, hq⟩ : ∃ q, n - (listL b k).length = q + 1 := ⟨n - (listL b k).length - 1, by omega⟩
  rw [hq, List.replicate_succ, List.set_cons_zero, show n - ((listL b k).length + 1) = q by omega]
  simp
theorem listTo_no {b n k : Nat} (h : ¬ bit b k = 1) : listTo b n k = listTo b n (k + 1) := by unfold listTo; rw [zHq h]
theorem listTo_take (b n : Nat) : (listTo b n n).take (listL b n).length = listL b n := by simp [listTo]
theorem sure_lt {f : File} (hf : f.Ok) : ∀ l, sureN f l < 32
  | [] => by show 31 < 32; decide
  | p :: l => by have h := zId hf p; exact Nat.lt_of_le_of_lt Nat.and_le_left h
theorem may_lt {f : File} (hf : f.Ok) : ∀ l, mayN f l < 32
  | [] => by show 0 < 32; decide
  | p :: l => Nat.or_lt_two_pow (n := 5) (zId hf p) (may_lt hf l)
theorem and31 {x : Nat} (h : x < 32) : x &&& 31 = x := by
  have h2 := Nat.and_two_pow_sub_one_eq_mod x 5
  rw [show 2 ^ 5 - 1 = 31 from rfl] at h2
  rw [h2]; exact Nat.mod_eq_of_lt h
theorem sure_snoc {f : File} (hf : f.Ok) (p : List Int) : ∀ l, sureN f (l ++ [p]) = sureN f l &&& paid f p
  | [] => by show paid f p &&& 31 = 31 &&& paid f p; exact Nat.and_comm _ _
  | q :: l => by show paid f q &&& sureN f (l ++ [p]) = (paid f q &&& sureN f l) &&& paid f p; rw [sure_snoc hf p l, Nat.and_assoc]
theorem may_snoc {f : File} (p : List Int) : ∀ l, mayN f (l ++ [p]) = mayN f l ||| paid f p
  | [] => by show paid f p ||| 0 = 0 ||| paid f p; rw [Nat.or_zero, Nat.zero_or]
  | q :: l => by show paid f q ||| mayN f (l ++ [p]) = (paid f q ||| mayN f l) ||| paid f p; rw [may_snoc p l, Nat.or_assoc]
def sureI (f : File) : List (List Int) → Int
  | [] => -1
  | p :: l => ((sureN f (p :: l) : Nat) : Int)
theorem sureI_pos {f : File} {l : List (List Int)} (h : l ≠ []) : sureI f l = ((sureN f l : Nat) : Int) := by
  cases l with
  | nil => exact absurd rfl h
  | cons p l => rfl
theorem sureI_step {f : File} (hf : f.Ok) {l : List (List Int)} {i : Nat} (hi : i < l.length) : (sureI f (l.take i) = -1 ∧ sureI f (l.take (i + 1)) = ((paid f l[i] : Nat) : Int)) ∨ ∃ x : Nat, sureI f (l.take i) = (x : Int) ∧ x < 9223372036854775808 ∧ sureI f (l.take (i + 1)) = ((x &&& paid f l[i] : Nat) : Int) := by
  rw [List.take_succ_eq_append_getElem hi, sureI_pos (l := l.take i ++ [l[i]]) (List.append_ne_nil_of_right_ne_nil _ (by simp)), sure_snoc hf]
  cases h : l.take i with
  | nil => left; refine ⟨rfl, ?_⟩; show ((31 &&& paid f l[i] : Nat) : Int) = _; rw [Nat.and_comm, and31 (zId hf _)]
  | cons p r => right; exact ⟨_, rfl, by have := sure_lt hf (p :: r); omega, rfl⟩
theorem may_step {f : File} {l : List (List Int)} {i : Nat} (hi : i < l.length) : mayN f (l.take (i + 1)) = mayN f (l.take i) ||| paid f l[i] := by rw [List.take_succ_eq_append_getElem hi, may_snoc]
end Go.Rt.Cm
/- The walking engine, part 25: bits of a number that may be -1. No conditions. -/
namespace Go.Rt
variable {P : Program} {n : Nat} {ρ : Nat → Value} {ds : List Deferred} {w : World} {d : Option Nat} {ty : TypeId} {p : String} {e : Array Edge} {g : Option (Nat × Bool)}
theorem y_andZ {t t2 : TypeId} {u v : Operand} {a b c : Int} {y : Nat} (ho : okO n u = true) (ho1 : okO n v = true) (hx : ev ρ u = .int .i64 a) (hy : ev ρ v = .int .i64 b) (hb : b = (y : Int)) (h2 : y < 9223372036854775808)
    (h : (a = -1 ∧ c = (y : Int)) ∨ ∃ x : Nat, a = (x : Int) ∧ x < 9223372036854775808 ∧ c = ((x &&& y : Nat) : Int)) : Yd P (A n ρ ds) ⟨d, .binOp .and t u v t2, ty, p, e, g⟩ w (.int .i64 c) := by
  rcases h with ⟨rfl, rfl⟩ | ⟨x, rfl, h1, rfl⟩
  · subst hb
    refine zGx ho ho1 hx hy fun w => ?_
    have : Go.bits .and .i64 (-1) (y : Int) = (y : Int) := by
      show IntKind.i64.wrap ((BitVec.ofInt 64 (-1) &&& BitVec.ofInt 64 (y : Int)).toNat : Int) = _
      rw [show BitVec.ofInt 64 (-1) = BitVec.allOnes 64 from by decide, BitVec.allOnes_and, ofI y h2, zFk (by omega) (by omega)]
    rw [binOp_and, intBits_and, this]; rfl
  · exact y_and ho ho1 hx hy rfl hb h1 h2
end Go.Rt
set_option maxRecDepth 20000
namespace Go.Proofs.Uc
open Go.Proofs.Tryz
open Go.Rt Go.Rt.Cm
open Go.Rt.Ha (felt spanL upto zBv listL bit Bunch zB8 zCi zBx zB2 zCg zCf zBu)
attribute [local irreducible] WL WC Con Yd At Ats Sl Agree DW
theorem zIr (x0 : Int) (w : World) : (Instr.buildSlice 22 1 [(0, .int .i64 x0)].toArray).run Tryz.prog w = .ok (.slice (some ⟨w.heap.size, 0, none⟩) 1 1) (w.alloc (Go.Rt.blk 3 [.int .i64 x0])) := by kernel_rfl
theorem zF1 {b k : Nat} (h : ¬ ((bit b k : Nat) : Int) = 1) : ¬ bit b k = 1 := fun e => h (by rw [e]; rfl)
theorem bit_one {b k : Nat} (h : ((bit b k : Nat) : Int) = 1) : bit b k = 1 := by omega
theorem listL_sl {w0 : World} {L : List (Nat × Obj)} {i b : Nat} {t : TypeId} {x n : Nat} (hi : L[i]? = some (b, blk t (iv (listTo x n n)))) (hc : listL x n ≠ []) : Sl w0 L (some ⟨b, 0, none⟩) 1 ((listL x n).map fun x => [Value.int .i64 x]) := by
  have h := Sl.cut (w0 := w0) (l' := 0) (h' := (listL x n).length) (c := n) (zFx hi) (Nat.zero_le _) (by have := zDx x n; simp [zIg x n n (Nat.le_refl _)]; omega) (by simp [zIg x n n (Nat.le_refl _)])
  rw [← List.map_drop, List.drop_zero, Nat.sub_zero, ← List.map_take, listTo_take] at h
  have hn : n ≠ 0 := by rintro rfl; exact hc rfl
  rw [if_neg hn] at h
  have e : (some (⟨b, 0, none⟩ : Addr)).map (·.add (0 * 1)) = some ⟨b, 0, none⟩ := rfl
  rwa [e] at h
theorem listL_slc {w0 : World} {L : List (Nat × Obj)} {b : Nat} {t : TypeId} {x n : Nat} (hi : L[0]? = some (b, blk t (iv (listTo x n n)))) : Sl w0 L (if n = 0 then some ⟨b, 0, none⟩ else (some (⟨b, 0, none⟩ : Addr)).map (·.add (0 * 1))) 1 ((listL x n).map fun x => [Value.int .i64 x]) := by
  by_cases hc : listL x n = []
  · rw [hc]; exact Sl.nil _ _
  · have hn : n ≠ 0 := by rintro rfl; exact hc rfl
    rw [if_neg hn]
    exact listL_sl hi hc
theorem c69 {w0 w : World} {F : List (Nat × Obj)} (x n : Nat) (hx : x < 1000) (hn : n ≤ 40) (hs : St w0 w F) :
  Con Tryz.prog 69 [.int .i64 x, .int .i64 n] w fun v w' => ∃ B a c, v = .slice a (listL x n).length c ∧ Sl w0 B a 1 ((listL x n).map fun x => [Value.int .i64 x]) ∧ St w0 w' (B ++ F) := by
  refine zAo (n := 31) func69 rfl rfl (zNl rfl) ?_
  refine zAf (fun K2 g7 => (zAb (zBi rfl rfl (zAd (zAc (g7 _ _ (zAf (fun K4 g8 => (zAb (zA6 rfl rfl (w_makeInts (k := n) zAa underlying22 zC3 rfl rfl (by omega) rfl rfl rfl rfl rfl hs (fun b5 w6 g9 => ?_))))))))))))
  refine w_p (zBz rfl rfl) rfl (zAd (zAc (g8 _ _ (zAf (fun K9 ga => (zAb (zBi rfl rfl (zAd (zAc (ga _ _ (zAf (fun gk gc => (zAf (fun gm gd => (zAb (zA6 rfl rfl ?_))))))))))))))))
  refine w_p (zBy (v := _) rfl rfl) rfl (zAd (zAc (gd _ _ (zAq ?_))))
  refine zB6 [6,7,11,12,13,14,15,16,17,18,19,20,21,22,23,24,25,26,27] [6,11] (fun k vs w => ∃ i : Nat, vs = [.int .i64 (listL x i).length, .int .i64 i] ∧ i ≤ n ∧ k = n - i ∧ St w0 w ((b5, blk 3 (iv (listTo x n i))) :: F)) (n) ?_ ?_
  ·
   exact ⟨0, rfl, by omega, by omega, by rw [listTo_zero]; exact g9⟩
  intro k vs μ gn hI go g4
  obtain ⟨i, rfl, hia, rfl, hs⟩ := hI
  have hll := zDx x i
  refine zAf (fun gp ge => (zAb (w_p (zCp rfl rfl rfl rfl) rfl (zAd (zAc (ge _ _ (zAf (fun gq gf => (zAr rfl rfl (fun g0 => ?_) (fun g0 => ?_))))))))))
  ·
   try simp only [zS] at g0
   refine zAn (zAc (gf _ _ (zAf (fun gt g5 => (zAq ?_)))))
   refine zAf (fun gu gg => (zAb (zA6 rfl rfl (zBw rfl rfl (zAd (zAc (gg _ _ (zAf (fun gv gh => (zAb (zA6 rfl rfl (zA6 rfl rfl (w_p (y_shr (x := _) (y := _) rfl rfl rfl rfl rfl rfl (by first | omega | exact zCr (by omega))) rfl ?_)))))))))))))
   refine w_p (show Yd _ _ _ _ (.int .i64 ((bit x i : Nat) : Int)) from (y_and (x := _) (y := 1) rfl rfl rfl rfl rfl rfl (by first | omega | exact zCr (by omega)) (by first | omega | exact zCr (by omega)))) rfl ?_
   refine w_p (zCa rfl rfl rfl rfl) rfl (zAd (zAc (gh _ _ (zAr rfl rfl (fun g3 => ?_) (fun g3 => ?_)))))
   ·
    try simp only [zS] at g3
    refine zAb (zA6 rfl rfl (w_p (zAx rfl rfl) rfl (zA6 rfl rfl (w_p (zIz (l' := (listL x i).length) (h' := _) underlying22 sizeOf3 rfl rfl ⟨rfl, _,_, rfl, rfl⟩ rfl (by omega) (by omega)) rfl (zA6 rfl rfl (zAu (ps := [(0, _)]) (pv := [(0, .int _ _)]) (cs := [_]) zAa rfl rfl (fun w => zIr _ w) hs (fun gw gx gi => ?_)))))))
    refine w_copy1 (i := 1) (i2 := 0) zAa underlying22 sizeOf3 rfl rfl rfl rfl gi rfl rfl (by omega) (by first | omega | rfl | (simp only [zIg x n i (by omega), zL] <;> omega)) (fun gy g6 => ?_)
    refine w_p (zBo rfl rfl rfl rfl (by omega) (by omega)) rfl (zBw rfl rfl (zAd (zAi (zAc (g5 _ _ (zAb (w_p (zBo rfl rfl rfl rfl (by omega) (by omega)) rfl ?_)))))))
    refine zA6 rfl rfl (zAd (zAc (g4 _ _ (nxI (n - (i + 1)) (by omega) ?_))))
    first
      | exact ⟨i + 1, iv2 (by rw [zGd (bit_one (by assumption)), List.length_append]; rfl) rfl, by omega, rfl, by have hq := g6.tail; rw [listTo_yes (by omega) (bit_one (by assumption))] at hq; exact hq⟩
      | exact ⟨i + 1, iv2 (by rw [zHq (zF1 (by assumption))]) rfl, by omega, rfl, by rw [← listTo_no (zF1 (by assumption))]; exact g6⟩
   try simp only [zS] at g3
   refine zAn (zAi (zAc (g5 _ _ (zAb (w_p (zBo rfl rfl rfl rfl (by omega) (by omega)) rfl (zA6 rfl rfl (zAd (zAc (g4 _ _ (nxI (n - (i + 1)) (by omega) ?_))))))))))
   first
     | exact ⟨i + 1, iv2 (by rw [zGd (bit_one (by assumption)), List.length_append]; rfl) rfl, by omega, rfl, by have hq := hs.tail; rw [listTo_yes (by omega) (bit_one (by assumption))] at hq; exact hq⟩
     | exact ⟨i + 1, iv2 (by rw [zHq (zF1 (by assumption))]) rfl, by omega, rfl, by rw [← listTo_no (zF1 (by assumption))]; exact hs⟩
  try simp only [zS] at g0
  refine zBt (zAj (zAj (zAv (zAc (gc _ _ (zAf (fun gz gj => (zAb (w_p (zAx rfl rfl) rfl (zA6 rfl rfl (w_p (zIz (l' := 0) (h' := (listL x i).length) underlying22 sizeOf3 rfl rfl rfl ⟨rfl, _,_, rfl, rfl⟩ (by omega) (by omega)) rfl ?_)))))))))))
  refine w_p (zBz rfl rfl) rfl (zAd (zAc (gj _ _ (zA8 (zBa (l := [.tmp 4]) (vs := [_]) rfl ⟨⟨rfl, show _ = (.slice _ _ _ : Value) from rfl⟩, trivial⟩ ?_)))))
  have hin : i = n := by omega
  subst hin
  exact ⟨[_], _,_, rfl, listL_slc (L := [_]) rfl, hs⟩

theorem zEs {w0 : World} {L : List (Nat × Obj)} {f : File} {p : AtF} {but cb mm : Nat} (hm : FIn w0 L f p) (hok : f.Ok) (hb : but < 1000) : CK w0 ((cb, blk 151 [.slice p.ap f.parties.length p.cp, .slice p.au f.until_.length p.cu, .slice p.al f.lots.length p.cl, .slice p.aq f.paps.length p.cq, .slice p.ac f.clms.length p.cc, .int .i64 (but : Int), .map (some mm)]) :: L) f p but cb mm := ⟨hm.cons, zB9 (i := 0) rfl rfl, hok, hb⟩
theorem c66y {w0 w : World} {F : List (Nat × Obj)} (f : File) (p : AtF) (hm : FIn w0 F f p) (hf : f.Ok) (n below : Int) (hn : 0 ≤ n ∧ n < below) (hbl : below ≤ 1000) (hsm : truths f 0 ≠ []) (hs : St w0 w F) :
  Con Tryz.prog 66 [.agg (f.cells p).toArray, .int .i64 n, .int .i64 below, .int .i64 0] w fun v w' => ∃ cb mm, v = .tuple #[.pointer (some ⟨cb, 0, none⟩), .int .i64 0] ∧ St w0 w' ((cb, blk 151 [.slice p.ap f.parties.length p.cp, .slice p.au f.until_.length p.cu, .slice p.al f.lots.length p.cl, .slice p.aq f.paps.length p.cq, .slice p.ac f.clms.length p.cc, .int .i64 ((0 : Nat) : Int), .map (some mm)]) :: (mm, .map #[] 0) :: F) := by
  refine zAo (n := 40) func66 rfl rfl (zNl rfl) ?_
  refine zAf (fun K2 g6 => (zAb (zCj (v := .agg #[.slice _ _ _, .slice _ _ _, .slice _ _ _, .slice _ _ _, .slice _ _ _]) (cs := [_,_,_,_,_]) zAa rfl rfl rfl hs (fun b3 w4 g4 => ?_))))
  refine zBi rfl rfl (zBi rfl rfl (zAd (zAc (g6 _ _ (zAf (fun K7 g7 => (zAb (w_p (zA2 (vs := [_,_,_,_,_]) isAgg56 sizeOf56 g4 rfl rfl (aow 0 [_,_,_,_,_])) rfl ?_))))))))
  refine zCo zAa call74 rfl rfl rfl rfl (c74 f p hm.cons hf g4) (fun w9 g8 => ?_)
  refine w_p (zA3 rfl rfl) rfl (w_p (zAk rfl rfl rfl) rfl (w_p (zAk rfl rfl rfl) rfl (w_p (zAk rfl rfl rfl) rfl (zBw rfl rfl (zBw rfl rfl (zBw rfl rfl (zAd (zAc (g7 _ _ (zAf (fun gn g9 => (zAq ?_))))))))))))
  refine zAf (fun go ga => (zAb (zA6 rfl rfl (w_p (zCs rfl rfl rfl rfl) rfl (w_p (zAs rfl rfl) rfl (zAd (zAc (ga _ _ (zBs rfl rfl ?_)))))))))
  refine zAf (fun gp gc => (zAb (zA6 rfl rfl (w_p (zFb rfl rfl rfl rfl (by omega) (by omega)) rfl (zA6 rfl rfl (zAu (ps := [(0, _)]) (pv := [(0, .int _ _)]) (cs := [_]) zAa rfl rfl (fun w => zIr _ w) g8 (fun gq gt gd => ?_)))))))
  refine zCo zAa call73 rfl rfl rfl rfl (c73 _ _ _ [_] _ (by simp) (zBb (i := 0) (rows := [[_]]) rfl (by simp) rfl) gd) (fun gu g5 => ?_)
  refine w_p (zAs rfl rfl) rfl (zAd (zAc (gc _ _ (zAr rfl rfl (fun g0 => ?_) (fun g0 => ?_)))))
  ·
   exfalso
   try simp only [zS] at g0
   first
     | (simp [out] at g0; omega)
     | (simp [out] at g0)
  try simp only [zS] at g0
  refine zAf (fun gv ge => (zAb (zA6 rfl rfl (w_p (zCs rfl rfl rfl rfl) rfl (w_p (zAs rfl rfl) rfl (zAd (zAc (ge _ _ (zAr rfl rfl (fun g3 => ?_) (fun g3 => ?_))))))))))
  ·
   exfalso
   try simp only [zS] at g3
   first
     | exact absurd rfl g3
     | (simp at g3)
  try simp only [zS] at g3
  refine zAn (zAi (zAc (g9 _ _ (zAf (fun gw gf => (zAb (w_p (zA2 (vs := [_,_,_,_,_]) isAgg56 sizeOf56 g5 rfl rfl (aow 1 [_,_,_,_,_])) rfl ?_)))))))
  refine zA4 zAa call76 rfl rfl rfl rfl (c76 f p 0 g5) ?_
  rintro _ gx ⟨cb, mm, rfl, gg⟩
  refine w_p (zDf rfl rfl) rfl (zAd (zAc (gf _ _ (zAf (fun gy gh => (zAf (fun gz gi => (zAb (w_p (zCn rfl rfl) rfl (zCo zAa call77 rfl rfl rfl rfl ((c77 f p 0 cb mm (zEs (FIn.cons hm.cons.cons) hf (by omega)) gg).mono (fun v w2 h => by rw [show (!(truths f 0).isEmpty) = true from by cases hq : truths f 0 <;> first | rfl | exact absurd hq hsm | (rw [hq] at hsm; cases hsm)] at h; exact h)) (fun gA gj => ?_)))))))))))
  refine w_p (zDo rfl rfl) rfl (zAd (zAc (gi _ _ (zBs rfl rfl ?_))))
  refine zAn (zAc (gh _ _ (zAf (fun gB gk => (zAb (w_p (zCn rfl rfl) rfl (w_p (zDf rfl rfl) rfl (zBi rfl rfl (zAd (zAc (gk _ _ (zA8 (zBa (l := [.tmp 8, .tmp 9]) (vs := [_,_]) rfl ⟨⟨rfl, show _ = (.pointer _ : Value) from rfl⟩, ⟨rfl, (rfl : _ = Value.int _ _)⟩, trivial⟩ ?_)))))))))))))
  have gm := (show St _ _ (_ :: _ :: F) from St.pk [[_], [_], [_], [_]] [0,1] gj)
  exact ⟨_, _, rfl, gm⟩

theorem c66z {w0 w : World} {F : List (Nat × Obj)} (f : File) (p : AtF) (hm : FIn w0 F f p) (hf : f.Ok) (n below : Int) (hn : 0 ≤ n ∧ n < below) (hbl : below ≤ 1000) (hsm : truths f 0 = []) (hs : St w0 w F) :
  Con Tryz.prog 66 [.agg (f.cells p).toArray, .int .i64 n, .int .i64 below, .int .i64 0] w fun v w' => v = .tuple #[.pointer none, .int .i64 8] ∧ St w0 w' F := by
  refine zAo (n := 40) func66 rfl rfl (zNl rfl) ?_
  refine zAf (fun K2 g6 => (zAb (zCj (v := .agg #[.slice _ _ _, .slice _ _ _, .slice _ _ _, .slice _ _ _, .slice _ _ _]) (cs := [_,_,_,_,_]) zAa rfl rfl rfl hs (fun b3 w4 g4 => ?_))))
  refine zBi rfl rfl (zBi rfl rfl (zAd (zAc (g6 _ _ (zAf (fun K7 g7 => (zAb (w_p (zA2 (vs := [_,_,_,_,_]) isAgg56 sizeOf56 g4 rfl rfl (aow 0 [_,_,_,_,_])) rfl ?_))))))))
  refine zCo zAa call74 rfl rfl rfl rfl (c74 f p hm.cons hf g4) (fun w9 g8 => ?_)
  refine w_p (zA3 rfl rfl) rfl (w_p (zAk rfl rfl rfl) rfl (w_p (zAk rfl rfl rfl) rfl (w_p (zAk rfl rfl rfl) rfl (zBw rfl rfl (zBw rfl rfl (zBw rfl rfl (zAd (zAc (g7 _ _ (zAf (fun gk g9 => (zAq ?_))))))))))))
  refine zAf (fun gm ga => (zAb (zA6 rfl rfl (w_p (zCs rfl rfl rfl rfl) rfl (w_p (zAs rfl rfl) rfl (zAd (zAc (ga _ _ (zBs rfl rfl ?_)))))))))
  refine zAf (fun gn gc => (zAb (zA6 rfl rfl (w_p (zFb rfl rfl rfl rfl (by omega) (by omega)) rfl (zA6 rfl rfl (zAu (ps := [(0, _)]) (pv := [(0, .int _ _)]) (cs := [_]) zAa rfl rfl (fun w => zIr _ w) g8 (fun go gp gd => ?_)))))))
  refine zCo zAa call73 rfl rfl rfl rfl (c73 _ _ _ [_] _ (by simp) (zBb (i := 0) (rows := [[_]]) rfl (by simp) rfl) gd) (fun gq g5 => ?_)
  refine w_p (zAs rfl rfl) rfl (zAd (zAc (gc _ _ (zAr rfl rfl (fun g0 => ?_) (fun g0 => ?_)))))
  ·
   exfalso
   try simp only [zS] at g0
   first
     | (simp [out] at g0; omega)
     | (simp [out] at g0)
  try simp only [zS] at g0
  refine zAf (fun gt ge => (zAb (zA6 rfl rfl (w_p (zCs rfl rfl rfl rfl) rfl (w_p (zAs rfl rfl) rfl (zAd (zAc (ge _ _ (zAr rfl rfl (fun g3 => ?_) (fun g3 => ?_))))))))))
  ·
   exfalso
   try simp only [zS] at g3
   first
     | exact absurd rfl g3
     | (simp at g3)
  try simp only [zS] at g3
  refine zAn (zAi (zAc (g9 _ _ (zAf (fun gu gf => (zAb (w_p (zA2 (vs := [_,_,_,_,_]) isAgg56 sizeOf56 g5 rfl rfl (aow 1 [_,_,_,_,_])) rfl ?_)))))))
  refine zA4 zAa call76 rfl rfl rfl rfl (c76 f p 0 g5) ?_
  rintro _ gv ⟨cb, mm, rfl, gg⟩
  refine w_p (zDf rfl rfl) rfl (zAd (zAc (gf _ _ (zAf (fun gw gx => (zAf (fun gy gh => (zAb (w_p (zCn rfl rfl) rfl (zCo zAa call77 rfl rfl rfl rfl ((c77 f p 0 cb mm (zEs (FIn.cons hm.cons.cons) hf (by omega)) gg).mono (fun v w2 h => by rw [show (!(truths f 0).isEmpty) = false from by cases hq : truths f 0 <;> first | rfl | exact absurd hq hsm | (rw [hq] at hsm; cases hsm)] at h; exact h)) (fun gz gi => ?_)))))))))))
  refine w_p (zDo rfl rfl) rfl (zAd (zAc (gh _ _ (zDb rfl rfl ?_))))
  refine zAf (fun gA gj => (zAb (zBi rfl rfl (zBi rfl rfl (zAd (zAc (gj _ _ (zA8 (zAl (zBa (l := [.tmp 8, .tmp 9]) (vs := [_,_]) rfl ⟨⟨rfl, show _ = (.pointer _ : Value) from rfl⟩, ⟨rfl, (rfl : _ = Value.int _ _)⟩, trivial⟩ ?_))))))))))
  exact ⟨rfl, gi.tail.tail.tail.tail⟩

end Go.Proofs.Uc
set_option maxRecDepth 20000
namespace Go.Proofs.Uc
open Go.Proofs.Tryz
open Go.Rt Go.Rt.Cm
open Go.Rt.Ha (felt spanL upto zBv listL bit Bunch zB8 zCi zBx zB2 zCg zCf zBu)
attribute [local irreducible] WL WC Con Yd At Ats Sl Agree DW

theorem set_perm2 (p a b q : Nat × Obj) (X M F : List (Nat × Obj)) : (p :: a :: b :: q :: (X ++ (M ++ F))).Perm ((a :: b :: M) ++ (p :: q :: (X ++ F))) := by
  have h1 : (p :: a :: b :: q :: (X ++ (M ++ F))).Perm ([a, b] ++ (p :: q :: (X ++ (M ++ F)))) := zBp [p] [a, b] _
  have h2 : (p :: q :: (X ++ (M ++ F))).Perm (M ++ (p :: q :: (X ++ F))) := zBp ([p, q] ++ X) M F
  have h3 := h1.trans (List.Perm.append_left [a, b] h2)
  simpa only [List.append_assoc, List.cons_append, List.nil_append] using h3
theorem c70 {w0 w : World} {X M F : List (Nat × Obj)} (f : File) (p : AtF) (cb mm : Nat) (hk : CK w0 F f p 0 cb mm)  (hM : Memo f mm M) (hs : St w0 w (X ++ (M ++ F))) :
  Con Tryz.prog 70 [.pointer (some ⟨cb, 0, none⟩)] w fun v w' => v = .tuple #[.int .i64 (sureI f (truths f 0)), .int .i64 ((mayN f (truths f 0) : Nat) : Int)] ∧ ∃ M', Memo f mm M' ∧ St w0 w' (X ++ (M' ++ F)) := by
  refine zEa (n := 20) func70 rfl rfl (zNl rfl) ?_
  refine zAf (fun K2 gg => (zAb (zCj (v := .pointer _) (cs := [_]) zAa rfl rfl rfl hs (fun b3 w4 gh => ?_))))
  refine zA1 (cs := [_]) zAa zeroValue3 rfl gh (fun b6 w7 gi => ?_)
  refine zA1 (cs := [_]) zAa zeroValue3 rfl gi (fun b9 gA gj => ?_)
  refine zAd (zAc (gg _ _ (zAf (fun gB gk => (zAb (zBj 1 (.int _ _) [_] sizeOf3 gj (fun gC gc => ?_)))))))
  refine zAd (zAc (gk _ _ (zAf (fun gD gm => (zAf (fun gE gn => (zAb (w_p (zAg isAgg114 gc rfl rfl (aow 2 [_])) rfl ?_))))))))
  refine zA4 zAa call67 rfl rfl rfl rfl (c67 _ gc) ?_
  rintro _ gF ⟨bp, rfl, go⟩
  refine zAd (zAc (gn _ _ (zAq ?_)))
  refine zG0 (_ :: _ :: M) (fun i Bx => ∃ M, Bx = (b9, blk 3 [.int .i64 ((mayN f ((truths f 0).take i) : Nat) : Int)]) :: (b6, blk 3 [.int .i64 (sureI f ((truths f 0).take i))]) :: M ∧ Memo f mm M) (fun _ _ => False) rfl rfl rfl call88 (zDv f p 0 cb mm hk.app.cons.cons bp (aow 0 [_])) go (set_perm2 _ _ _ _  X M F) ⟨M, rfl, hM⟩ ?_ ?_ ?_
  ·
   intro lp i hi Bx Xr Xr2 gG hJ hs K gp
   obtain ⟨M3, rfl, g0⟩ := hJ
   have hi2 : i < (truths f 0).length := by simpa using hi
   rw [List.getElem_map]
   obtain ⟨x, hxe⟩ : ∃ x, x = (truths f 0)[i] := ⟨_, rfl⟩
   have hx := zFu hk.ok (List.getElem_mem hi2)
   rw [← hxe] at hx ⊢
   have hx4 := hx.1
   have hp32 := zId hk.ok x
   have hx1 : Ats w0 ((bp, blk 114 [.pointer (some ⟨cb, 0, none⟩)]) :: (b3, blk 114 [.pointer (some ⟨cb, 0, none⟩)]) :: (X ++ F)) b3 0 [.pointer (some ⟨cb, 0, none⟩)] := zB9 (i := 1) rfl rfl
   replace hs := (show St _ _ (_ :: _ :: (M3 ++ (Xr ++ ((bp, blk 114 [.pointer (some ⟨cb, 0, none⟩)]) :: (b3, blk 114 [.pointer (some ⟨cb, 0, none⟩)]) :: (X ++ F))))) from hs)
   have hm32 := may_lt hk.ok ((truths f 0).take i)
   refine zAb (zA1 (cs := iv [0,0,0,0]) zAa zeroValue121 rfl hs (fun gd gH gq => ?_))
   refine zDg (i := 0) (l := _) zAa sizeOf121 (by first | omega | rfl | (simp only [hx4, zL] <;> omega)) rfl rfl rfl rfl rfl gq rfl (by first | omega | rfl | (simp only [hx4, zL] <;> omega)) (fun gI gt => ?_)
   refine zAd (zAc (gp _ _ (_ :: _ :: _ :: M3) gt (fun gJ g9 => ?_)))
   replace g9 := (show St _ _ (_ :: _ :: _ :: M3 ++ (Xr2 ++ (_ :: _ :: X ++ (F)))) from g9)
   refine zAq ?_
   refine zAf (fun gK gu => (zG1 (C := fun w => ∃ M, Memo f mm M ∧ St w0 w ((gd, blk 121 (iv x)) :: (b9, blk 3 [.int .i64 ((mayN f ((truths f 0).take i) : Nat) : Int)]) :: (b6, blk 3 [.int .i64 (sureI f ((truths f 0).take i))]) :: (M ++ (Xr2 ++ ((bp, blk 114 [.pointer (some ⟨cb, 0, none⟩)]) :: (b3, blk 114 [.pointer (some ⟨cb, 0, none⟩)]) :: (X ++ F)))))) [5] [(0,1),(1,1),(2,1),(3,2),(4,0),(5,3)] zB4 (zBk (by kernel_rfl)) ⟨_, g0, g9⟩ (fun _ ⟨M, h1, h2⟩ => ⟨M, h1, h2.drew⟩) (fun gL ⟨M3, g0, g4⟩ => ?_)))
   refine zCe rfl zAa rfl ⟨_, g0, g4⟩ (fun _ ⟨M3, g0, hq⟩ => (zAg isAgg3 hq rfl rfl (aow 2 [_]))) ?_
   refine zCe rfl zAa rfl ⟨_, g0, g4⟩ (fun _ ⟨M3, g0, hq⟩ => (zAg isAgg114 hq.tail.tail.tail.drop.drop rfl rfl hx1)) ?_
   refine zCe rfl zAa rfl ⟨_, g0, g4⟩ (fun _ ⟨M3, g0, hq⟩ => (zCt (i := 0) isAgg121 sizeOf121 (by first | omega | rfl | (simp only [hx4, zL] <;> omega)) hq rfl rfl rfl)) ?_
   refine zBh rfl ?_
   refine zA4 zAa call71 rfl rfl rfl rfl (zI3 (X := [_,_,_]) (M := M3) (F := Xr2 ++ ((bp, blk 114 [.pointer (some ⟨cb, 0, none⟩)]) :: (b3, blk 114 [.pointer (some ⟨cb, 0, none⟩)]) :: (X ++ F))) f p 0 cb mm hk.app.cons.cons.app x hx g0 g4) ?_
   rintro _ gM ⟨rfl, M4, g3, g5⟩
   replace g5 := (show St _ _ (_ :: _ :: _ :: M4 ++ (Xr2 ++ (_ :: _ :: X ++ (F)))) from g5)
   refine zAd (qn ⟨⟨_, g3, g5⟩, ?_⟩)
   refine d_w rfl (fun _ => y_andZ (y := paid f x) (c := sureI f ((truths f 0).take (i + 1))) rfl rfl rfl rfl rfl (by omega) (by have h := sureI_step hk.ok hi2; rw [← hxe] at h; exact h)) rfl ?_
   refine zBr rfl ?_
   refine zBj 2 (.int _ _) [_] sizeOf3 g5 (fun gN gv => ?_)
   refine zAd (qn ?_)
   refine zBm ?_
   refine zAc (gu _ _ (zG1 (C := fun w => ∃ M, Memo f mm M ∧ St w0 w ((gd, blk 121 (iv x)) :: (b9, blk 3 [.int .i64 ((mayN f ((truths f 0).take i) : Nat) : Int)]) :: (b6, blk 3 [.int .i64 (sureI f ((truths f 0).take (i + 1)))]) :: (M ++ (Xr2 ++ ((bp, blk 114 [.pointer (some ⟨cb, 0, none⟩)]) :: (b3, blk 114 [.pointer (some ⟨cb, 0, none⟩)]) :: (X ++ F)))))) [5] [(0,1),(1,1),(2,1),(3,2),(4,0),(5,3)] zB4 (zBk (by kernel_rfl)) ⟨_, g3, gv⟩ (fun _ ⟨M, h1, h2⟩ => ⟨M, h1, h2.drew⟩) (fun gO ⟨M4, g3, g6⟩ => ?_)))
   refine zCe rfl zAa rfl ⟨_, g3, g6⟩ (fun _ ⟨M4, g3, hq⟩ => (zAg isAgg3 hq rfl rfl (aow 1 [_]))) ?_
   refine zCe rfl zAa rfl ⟨_, g3, g6⟩ (fun _ ⟨M4, g3, hq⟩ => (zAg isAgg114 hq.tail.tail.tail.drop.drop rfl rfl hx1)) ?_
   refine zCe rfl zAa rfl ⟨_, g3, g6⟩ (fun _ ⟨M4, g3, hq⟩ => (zCt (i := 0) isAgg121 sizeOf121 (by first | omega | rfl | (simp only [hx4, zL] <;> omega)) hq rfl rfl rfl)) ?_
   refine zBh rfl ?_
   refine zA4 zAa call71 rfl rfl rfl rfl (zI3 (X := [_,_,_]) (M := M4) (F := Xr2 ++ ((bp, blk 114 [.pointer (some ⟨cb, 0, none⟩)]) :: (b3, blk 114 [.pointer (some ⟨cb, 0, none⟩)]) :: (X ++ F))) f p 0 cb mm hk.app.cons.cons.app x hx g3 g6) ?_
   rintro _ gP ⟨rfl, M5, ge, g7⟩
   replace g7 := (show St _ _ (_ :: _ :: _ :: M5 ++ (Xr2 ++ (_ :: _ :: X ++ (F)))) from g7)
   refine zAd (qn ⟨⟨_, ge, g7⟩, ?_⟩)
   refine d_w rfl (fun _ => y_or (x := mayN f ((truths f 0).take i)) (y := paid f x) rfl rfl rfl rfl (by first | rfl | omega) (by first | rfl | omega) (by first | omega | exact zCr (by omega)) (by first | omega | exact zCr (by omega))) rfl ?_
   refine zBr rfl ?_
   refine zBj 1 (.int _ _) [_] sizeOf3 g7 (fun gQ gw => ?_)
   refine zAd (qn ?_)
   refine zBm ?_
   refine zAi (zD2 (_ :: _ :: M5) gw.tail ?_)
   exact ⟨M5, by rw [may_step hi2, ← hxe]; rfl, ge⟩
  ·
   intro bd Bx gR hJ hs
   obtain ⟨M3, rfl, g0⟩ := hJ
   rw [List.length_map, List.take_of_length_le (Nat.le_refl _)] at hs
   replace hs := (show St _ _ (_ :: _ :: _ :: (M3 ++ ((bp, blk 114 [.pointer (some ⟨cb, 0, none⟩)]) :: (b3, blk 114 [.pointer (some ⟨cb, 0, none⟩)]) :: (X ++ F)))) from hs)
   refine zAi (zAc (gm _ _ (zAf (fun gS gx => (w_drawD (C0 := fun w => St w0 w _) (C := fun w => ∃ z : Int, St w0 w ((bd, .deferred (some [])) :: (b9, blk 3 [.int .i64 ((mayN f (truths f 0) : Nat) : Int)]) :: (b6, blk 3 [.int .i64 z]) :: (M3 ++ ((bp, blk 114 [.pointer (some ⟨cb, 0, none⟩)]) :: (b3, blk 114 [.pointer (some ⟨cb, 0, none⟩)]) :: (X ++ F))))) [3] [(1,1),(0,2),(2,2),(3,3)] zB4 (zBk (by kernel_rfl)) hs (fun _ h => ⟨_, h⟩) (fun _ h => h.drew) (fun gT g8 => ?_))))))
   refine zCe rfl zAa rfl ⟨_, g8⟩ (fun _ ⟨z6, hq⟩ => (zAg isAgg3 hq rfl rfl (aow 1 [_]))) ?_
   refine zBh rfl ?_
   refine w_p (zAg isAgg3 g8 rfl rfl (aow 2 [_])) rfl (zAd ?_)
   refine qn ⟨⟨_, g8⟩, ?_⟩
   refine zBh rfl ?_
   refine zBj 2 (.int _ _) [_] sizeOf3 g8 (fun gU gf => ?_)
   refine zAd (qn ⟨⟨_, gf⟩, ?_⟩)
   refine zBr rfl ?_
   refine zBj 1 (.int _ _) [_] sizeOf3 gf (fun gV gy => ?_)
   refine zAd (qn ?_)
   refine zBm ?_
   refine zAc (gx _ _ (zA8 (zGa (i := 0) (l := [.cell 2 3, .cell 3 3]) (vs := [_,_]) gy rfl rfl (fun gW ga => ⟨⟨⟨rfl, _, rfl, zEk isAgg3 ga (aow 2 [_])⟩, ⟨rfl, _, rfl, zEk isAgg3 ga (aow 1 [_])⟩, trivial⟩, ?_⟩))))
   have gz := (show St _ _ ((X ++ ((M3 ++ (F))))) from St.pk [[_], [_], [_], M3, [_], [_], X] [6,3] ga)
   exact ⟨rfl, M3, g0, gz⟩
  intro _ _ _ _ hJ
  exact hJ.elim

end Go.Proofs.Uc
set_option maxRecDepth 20000
namespace Go.Proofs.Uc
open Go.Proofs.Tryz
open Go.Rt Go.Rt.Cm
open Go.Rt.Ha (felt spanL upto zBv listL bit Bunch zB8 zCi zBx zB2 zCg zCf zBu)
attribute [local irreducible] WL WC Con Yd At Ats Sl Agree DW

theorem pays_1 {f : File} {n : Nat} (h : ((bit (sureN f (truths f 0)) n : Nat) : Int) = 1) : pays f n = 1 := by unfold pays; rw [if_pos (by omega)]
theorem pays_2 {f : File} {n : Nat} (h : ¬ ((bit (sureN f (truths f 0)) n : Nat) : Int) = 1) (h2 : ((bit (mayN f (truths f 0)) n : Nat) : Int) = 0) : pays f n = 2 := by unfold pays; rw [if_neg (fun x => x (bit0 h)), if_pos (by omega)]
theorem pays_0 {f : File} {n : Nat} (h : ¬ ((bit (sureN f (truths f 0)) n : Nat) : Int) = 1) (h2 : ¬ ((bit (mayN f (truths f 0)) n : Nat) : Int) = 0) : pays f n = 0 := by unfold pays; rw [if_neg (fun x => x (bit0 h)), if_neg (by omega)]
theorem tup1 {a b : Int} (h : b = a) : Value.tuple #[.int .i64 a, .int .i64 0] = Value.tuple #[.int .i64 b, .int .i64 0] := by rw [h]
theorem diff_lt {a b : Nat} (h : a < 32) : bitDiff a b < 1000 := by
  unfold bitDiff
  rw [BitVec.toNat_and]
  have h2 : (BitVec.ofNat 64 a).toNat ≤ a := by rw [BitVec.toNat_ofNat]; exact Nat.mod_le _ _
  exact Nat.lt_of_le_of_lt Nat.and_le_left (by omega)
theorem c32 {w0 w : World} {F : List (Nat × Obj)} (f : File) (p : AtF) (hm : FIn w0 F f p) (hf : f.Ok) (hsm : truths f 0 ≠ []) (n : Nat) (hn : n < f.clms.length) (hs : St w0 w F) :
  Con Tryz.prog 32 [.agg (f.cells p).toArray, .int .i64 (n : Int)] w fun v w' => v = .tuple #[.int .i64 (pays f n), .int .i64 0] ∧ St w0 w' F := by
  refine zAo (n := 39) func32 rfl rfl (zNl rfl) ?_
  have hlc := hf.lc
  have hll := hf.ll
  have hsl := sure_lt hf (truths f 0)
  have hml := may_lt hf (truths f 0)
  refine zAf (fun K2 g6 => (zAb (zCj (v := .agg #[.slice _ _ _, .slice _ _ _, .slice _ _ _, .slice _ _ _, .slice _ _ _]) (cs := [_,_,_,_,_]) zAa rfl rfl rfl hs (fun b3 w4 g3 => ?_))))
  refine zBi rfl rfl (zBi rfl rfl (zAd (zAc (g6 _ _ (zAf (fun K7 g7 => (zAb (w_p (zA2 (vs := [_,_,_,_,_]) isAgg56 sizeOf56 g3 rfl rfl (aow 0 [_,_,_,_,_])) rfl (zA6 rfl rfl (w_p (zAe (o := 4) (i := 4) underlying56 rfl sizeOf54 rfl rfl rfl) rfl ?_))))))))))
  refine w_p (zAg isAgg54 g3 rfl rfl (aow 0 [_])) rfl (w_p (zBc underlying54 rfl rfl) rfl ?_)
  refine zA4 zAa call66 rfl rfl rfl rfl (c66y f p hm.cons hf (n : Int) (f.clms.length : Int) (by omega) (by omega) hsm g3) ?_
  rintro _ w9 ⟨cb, mm, rfl, g8⟩
  have g9 := (show St _ _ (_ :: _ :: _ :: F) from St.pk [[_], [_], [_]] [1,0,2] g8)
  refine w_p (zA3 rfl rfl) rfl (w_p (zAw rfl rfl rfl) rfl (w_p (zAk rfl rfl rfl) rfl (w_p (zDf rfl rfl) rfl (zBw rfl rfl (zAd (zAc (g7 _ _ (zAf (fun gk ga => (zAf (fun gm gc => (zAb (zA6 rfl rfl ?_)))))))))))))
  refine w_p (zCs rfl rfl rfl rfl) rfl (zAd (zAc (gc _ _ (zBs rfl rfl ?_))))
  refine zAn (zAc (ga _ _ (zAf (fun gn gd => (zAf (fun go ge => (zAb (w_p (zCn rfl rfl) rfl (zA4 zAa call70 rfl rfl rfl rfl ((c70 (X := []) (M := [_]) f p cb mm (zEs (FIn.cons hm) hf (by omega)) (zE1 f mm) g9).mono (fun v w2 h => by rw [sureI_pos hsm] at h; exact h)) ?_)))))))))
  rintro _ gp ⟨rfl, M1, gq, g0⟩
  replace g0 := (show St _ _ (M1 ++ (_ :: _ :: F)) from g0)
  refine w_p (zA3 rfl rfl) rfl (w_p (zAk rfl rfl rfl) rfl (w_p (zAk rfl rfl rfl) rfl (zBw rfl rfl (zBw rfl rfl (zAd (zAc (ge _ _ (zAq ?_))))))))
  refine zAf (fun gt gf => (zAb (zA6 rfl rfl (zA6 rfl rfl (w_p (y_shr (x := sureN f (truths f 0)) (y := n) rfl rfl rfl rfl (by first | rfl | omega) (by first | rfl | omega) (by first | omega | exact zCr (by omega))) rfl ?_)))))
  refine w_p (show Yd _ _ _ _ (.int .i64 ((bit (sureN f (truths f 0)) n : Nat) : Int)) from (y_and (x := _) (y := 1) rfl rfl rfl rfl rfl rfl (by first | omega | exact zCr (by omega)) (by first | omega | exact zCr (by omega)))) rfl ?_
  refine w_p (zCa rfl rfl rfl rfl) rfl (w_p (zAs rfl rfl) rfl (zAd (zAc (gf _ _ (zAr rfl rfl (fun g4 => ?_) (fun g4 => ?_))))))
  ·
   try simp only [zS] at g4
   refine zAf (fun gu gg => (zAb (zBi rfl rfl (zBi rfl rfl (zAd (zAc (gg _ _ (zA8 (zA9 (zAl (zBa (l := [.tmp 4, .tmp 5]) (vs := [_,_]) rfl ⟨⟨rfl, (rfl : _ = Value.int _ _)⟩, ⟨rfl, (rfl : _ = Value.int _ _)⟩, trivial⟩ ?_)))))))))))
   first
     | exact ⟨tup1 (pays_1 (by assumption)), g0.drop.tail.tail⟩
     | exact ⟨tup1 (pays_2 (by assumption) (by assumption)), g0.drop.tail.tail⟩
     | exact ⟨tup1 (pays_0 (by assumption) (by assumption)), g0.drop.tail.tail⟩
  try simp only [zS] at g4
  refine zAf (fun gv gh => (zAb (zA6 rfl rfl (zA6 rfl rfl (w_p (y_shr (x := mayN f (truths f 0)) (y := n) rfl rfl rfl rfl (by first | rfl | omega) (by first | rfl | omega) (by first | omega | exact zCr (by omega))) rfl ?_)))))
  refine w_p (show Yd _ _ _ _ (.int .i64 ((bit (mayN f (truths f 0)) n : Nat) : Int)) from (y_and (x := _) (y := 1) rfl rfl rfl rfl rfl rfl (by first | omega | exact zCr (by omega)) (by first | omega | exact zCr (by omega)))) rfl ?_
  refine w_p (zCa rfl rfl rfl rfl) rfl (w_p (zAs rfl rfl) rfl (zAd (zAc (gh _ _ (zAr rfl rfl (fun g5 => ?_) (fun g5 => ?_))))))
  ·
   try simp only [zS] at g5
   refine zAf (fun gw gi => (zAb (zBi rfl rfl (zBi rfl rfl (zAd (zAc (gi _ _ (zA8 (zA9 (zAl (zBa (l := [.tmp 4, .tmp 5]) (vs := [_,_]) rfl ⟨⟨rfl, (rfl : _ = Value.int _ _)⟩, ⟨rfl, (rfl : _ = Value.int _ _)⟩, trivial⟩ ?_)))))))))))
   first
     | exact ⟨tup1 (pays_1 (by assumption)), g0.drop.tail.tail⟩
     | exact ⟨tup1 (pays_2 (by assumption) (by assumption)), g0.drop.tail.tail⟩
     | exact ⟨tup1 (pays_0 (by assumption) (by assumption)), g0.drop.tail.tail⟩
  try simp only [zS] at g5
  refine zAn (zAi (zAc (gd _ _ (zAf (fun gx gj => (zAb (zBi rfl rfl (zBi rfl rfl (zAd (zAc (gj _ _ (zA8 (zBa (l := [.tmp 4, .tmp 5]) (vs := [_,_]) rfl ⟨⟨rfl, (rfl : _ = Value.int _ _)⟩, ⟨rfl, (rfl : _ = Value.int _ _)⟩, trivial⟩ ?_)))))))))))))
  first
    | exact ⟨tup1 (pays_1 (by assumption)), g0.drop.tail.tail⟩
    | exact ⟨tup1 (pays_2 (by assumption) (by assumption)), g0.drop.tail.tail⟩
    | exact ⟨tup1 (pays_0 (by assumption) (by assumption)), g0.drop.tail.tail⟩

theorem c33 {w0 w : World} {F : List (Nat × Obj)} (f : File) (p : AtF) (hm : FIn w0 F f p) (hf : f.Ok) (hsm : truths f 0 ≠ [])  (hs : St w0 w F) :
  Con Tryz.prog 33 [.agg (f.cells p).toArray] w fun v w' => ∃ B a c, v = .tuple #[.slice a (held f).length c, .int .i64 0] ∧ Sl w0 B a 1 ((held f).map fun x => [Value.int .i64 x]) ∧ St w0 w' (B ++ F) := by
  refine zAo (n := 28) func33 rfl rfl (zNl rfl) ?_
  have hlc := hf.lc
  have hll := hf.ll
  have hsl := sure_lt hf (truths f 0)
  have hml := may_lt hf (truths f 0)
  refine zAf (fun K2 g6 => (zAb (zCj (v := .agg #[.slice _ _ _, .slice _ _ _, .slice _ _ _, .slice _ _ _, .slice _ _ _]) (cs := [_,_,_,_,_]) zAa rfl rfl rfl hs (fun b3 w4 g4 => ?_))))
  refine zBi rfl rfl (zBi rfl rfl (zAd (zAc (g6 _ _ (zAf (fun K7 g7 => (zAb (w_p (zA2 (vs := [_,_,_,_,_]) isAgg56 sizeOf56 g4 rfl rfl (aow 0 [_,_,_,_,_])) rfl ?_))))))))
  refine zA4 zAa call66 rfl rfl rfl rfl (c66y f p hm.cons hf 0 1 (by omega) (by omega) hsm g4) ?_
  rintro _ w9 ⟨cb, mm, rfl, g8⟩
  have g9 := (show St _ _ (_ :: _ :: _ :: F) from St.pk [[_], [_], [_]] [1,0,2] g8)
  refine w_p (zA3 rfl rfl) rfl (w_p (zAw rfl rfl rfl) rfl (w_p (zAk rfl rfl rfl) rfl (w_p (zDf rfl rfl) rfl (zBw rfl rfl (zAd (zAc (g7 _ _ (zAf (fun gg ga => (zAf (fun gh gc => (zAb (zA6 rfl rfl ?_)))))))))))))
  refine w_p (zCs rfl rfl rfl rfl) rfl (zAd (zAc (gc _ _ (zBs rfl rfl ?_))))
  refine zAn (zAc (ga _ _ (zAf (fun gi gd => (zAb (w_p (zCn rfl rfl) rfl (zA4 zAa call70 rfl rfl rfl rfl ((c70 (X := []) (M := [_]) f p cb mm (zEs (FIn.cons hm) hf (by omega)) (zE1 f mm) g9).mono (fun v w2 h => by rw [sureI_pos hsm] at h; exact h)) ?_)))))))
  rintro _ gj ⟨rfl, M1, gk, g0⟩
  replace g0 := (show St _ _ (M1 ++ (_ :: _ :: F)) from g0)
  refine w_p (zA3 rfl rfl) rfl (w_p (zAk rfl rfl rfl) rfl (w_p (zAk rfl rfl rfl) rfl (zBw rfl rfl (zBw rfl rfl (zAd (zAc (gd _ _ (zAf (fun gm ge => (zAb (zA6 rfl rfl ?_)))))))))))
  refine zA6 rfl rfl (w_p (zI0 (x := mayN f (truths f 0)) (y := sureN f (truths f 0)) rfl rfl rfl rfl (by first | rfl | omega) (by first | rfl | omega) (by first | omega | exact zCr (by omega))) rfl ?_)
  have g5 := (show St _ _ (_ :: _ :: (M1 ++ (F))) from St.pk [M1, [_], [_]] [1,2,0] g0)
  refine w_p (zAe (o := 4) (i := 4) underlying56 rfl sizeOf54 rfl rfl rfl) rfl (w_p (zAg isAgg54 g5 rfl rfl (aow 1 [_])) rfl (w_p (zBc underlying54 rfl rfl) rfl ?_))
  refine zA4 zAa call69 rfl rfl rfl rfl (c69 (bitDiff (mayN f (truths f 0)) (sureN f (truths f 0))) f.clms.length (diff_lt hml) (by omega) g5) ?_
  rintro _ gn ⟨B, aB, cB, rfl, hslB, g3⟩
  replace g3 := (show St _ _ (B ++ (_ :: _ :: M1 ++ (F))) from g3)
  refine w_p (zBz rfl rfl) rfl (zBi rfl rfl (zAd (zAc (ge _ _ (zA8 (zBa (l := [.tmp 2, .tmp 3]) (vs := [_,_]) rfl ⟨⟨rfl, show _ = (.slice _ _ _ : Value) from rfl⟩, ⟨rfl, (rfl : _ = Value.int _ _)⟩, trivial⟩ ?_))))))
  have gf := (show St _ _ ((B ++ (F))) from St.pk [B, [_], [_], M1] [0] g3)
  exact ⟨B, aB, cB, rfl, hslB, gf⟩

end Go.Proofs.Uc
/- Plain words of the claim layer: sums over truths, step by step. No conditions. -/
namespace Go.Rt.Cm
open Go.Rt.Ha (felt spanL upto bit listL fewest Bunch zD4 zC4 at_ zBv zDu upto_nodup zC2 bit01)
theorem fold_snoc {α β : Type} (f : β → α → β) (b : β) {l : List α} {i : Nat} (h : i < l.length) : (l.take (i + 1)).foldl f b = f ((l.take i).foldl f b) l[i] := Tu.fold_snoc f b h
theorem with_in {f : File} (hf : f.Ok) {x : List Int} (hx : In4 f x) {lot : Nat} (hl : lot < f.lots.length) : 0 ≤ withP f x lot ∧ withP f x lot < f.parties.length := by
  have h1 := hx.2 lot hl
  have h2 := zGc hf hl
  have h3 := h2.turned
  have hq : x.getD lot 0 = ((x.getD lot 0).toNat : Int) := by omega
  rw [with_at hq (by omega)]
  exact h2.inn _ (List.getElem_mem _)
theorem who_small {f : File} (hf : f.Ok) {lot : Nat} (hl : lot < f.lots.length) {l : List (List Int)} (hl2 : ∀ x ∈ l, In4 f x) : whoSet f lot l < 32 := by
  have key : ∀ (l : List (List Int)) (s : Nat), (∀ x ∈ l, In4 f x) → s < 32 → l.foldl (fun s p => s ||| (1 <<< (withP f p lot).toNat)) s < 32 := by
    intro l
    induction l with
    | nil => intro s _ h; exact h
    | cons p l ih =>
      intro s hx hs
      refine ih _ (fun x h => hx x (.tail _ h)) (Nat.or_lt_two_pow (n := 5) hs ?_)
      have h2 := with_in hf (hx p (.head _)) hl
      have hnp := hf.np
      have h3 := (shl5 (i := (withP f p lot).toNat) (by omega)).2
      omega
  exact key l 0 hl2 (by decide)
theorem who_step {f : File} {lot : Nat} {l : List (List Int)} {i : Nat} (h : i < l.length) : whoSet f lot (l.take (i + 1)) = whoSet f lot (l.take i) ||| (1 <<< (withP f l[i] lot).toNat) := fold_snoc _ _ h
theorem zGo (b : Nat) : ∀ n, ∀ z ∈ listL b n, 0 ≤ z ∧ z < n
  | 0, z, h => by simp [listL] at h
  | n + 1, z, h => by
    simp only [listL, List.mem_append] at h
    rcases h with h | h
    · have := zGo b n z h; omega
    · split at h <;> simp at h; omega
theorem owes_step {f : File} {party : Int} {l : List (List Int)} {i : Nat} (h : i < l.length) : (l.take (i + 1)).foldl (owesSt f party) ((0,0), true) = owesSt f party ((l.take i).foldl (owesSt f party) ((0,0), true)) l[i] := fold_snoc _ _ h
theorem zHd {f : File} {party : Int} {l : List Int} {i : Nat} (h : i < l.length) : sumOf f party (l.take (i + 1)) = if (clmAt f l[i].toNat).against = party then sumOf f party (l.take i) + (lotAt f (clmAt f l[i].toNat).lot.toNat).worth else sumOf f party (l.take i) := fold_snoc _ _ h
theorem worth_in {f : File} (hf : f.Ok) {i : Nat} (h : i < f.clms.length) : 1 ≤ (lotAt f f.clms[i].lot.toNat).worth ∧ (lotAt f f.clms[i].lot.toNat).worth ≤ 99 := by
  have h2 := (hf.clm _ (List.getElem_mem h)).1
  exact (zGc hf (i := f.clms[i].lot.toNat) (by omega)).worth
theorem sum_bd {f : File} (hf : f.Ok) (party : Int) {l : List Int} (hl : ∀ z ∈ l, 0 ≤ z ∧ z < f.clms.length) : ∀ k, k ≤ l.length → 0 ≤ sumOf f party (l.take k) ∧ sumOf f party (l.take k) ≤ 99 * (k : Int)
  | 0, _ => by simp [sumOf]
  | k + 1, h => by
    have ih := sum_bd hf party hl k (by omega)
    have hk : k < l.length := by omega
    have hz := hl _ (List.getElem_mem hk)
    rw [zHd hk]
    split
    · have h2 : l[k].toNat < f.clms.length := by omega
      have h3 := worth_in hf h2
      rw [zFr h2]
      omega
    · omega
def owesTo (f : File) (party : Int) (i : Nat) : (Int × Int) × Bool := ((truths f 0).take i).foldl (owesSt f party) ((0,0), true)
theorem owesTo_yes {f : File} {party n : Int} {i : Nat} (h : i < (truths f 0).length) (hn : sumP f party (truths f 0)[i] = n) (hb : (owesTo f party i).2 = true) : owesTo f party (i + 1) = ((n, n), false) := by
  unfold owesTo at hb ⊢
  rw [owes_step h, owesSt, if_pos hb, hn]
theorem owesTo_no {f : File} {party n : Int} {i : Nat} (h : i < (truths f 0).length) (hn : sumP f party (truths f 0)[i] = n) (hb : (owesTo f party i).2 = false) : owesTo f party (i + 1) = ((min (owesTo f party i).1.1 n, max (owesTo f party i).1.2 n), false) := by
  unfold owesTo at hb ⊢
  rw [owes_step h, owesSt, if_neg (by simp [hb]), hn]
theorem owes_all (f : File) (party : Int) : owes f party = (owesTo f party (truths f 0).length).1 := by unfold owes owesTo; rw [List.take_of_length_le (Nat.le_refl _)]
end Go.Rt.Cm
set_option maxRecDepth 20000
namespace Go.Proofs.Uc
open Go.Proofs.Tryz
open Go.Rt Go.Rt.Cm
open Go.Rt.Ha (felt spanL upto zBv listL bit Bunch zB8 zCi zBx zB2 zCg zCf zBu)
attribute [local irreducible] WL WC Con Yd At Ats Sl Agree DW

theorem who_cells {b : Nat} {x y : Nat} (h : x = y) : ([(b, blk 3 [.int .i64 ((x : Nat) : Int)])] : List (Nat × Obj)) = [(b, blk 3 [.int .i64 ((y : Nat) : Int)])] := by rw [h]
theorem c31y {w0 w : World} {F : List (Nat × Obj)} (f : File) (p : AtF) (hm : FIn w0 F f p) (hf : f.Ok) (hsm : truths f 0 ≠ []) (lot : Nat) (hl : lot < f.lots.length) (hs : St w0 w F) :
  Con Tryz.prog 31 [.agg (f.cells p).toArray, .int .i64 (lot : Int)] w fun v w' => ∃ B a c, v = .tuple #[.slice a (who f lot).length c, .int .i64 0] ∧ Sl w0 B a 1 ((who f lot).map fun x => [Value.int .i64 x]) ∧ St w0 w' (B ++ F) := by
  refine zEa (n := 37) func31 rfl rfl (zNl rfl) ?_
  have hlc := hf.lc
  have hll := hf.ll
  have hnp := hf.np
  refine zAf (fun K2 g9 => (zAb (zCj (v := .agg #[.slice _ _ _, .slice _ _ _, .slice _ _ _, .slice _ _ _, .slice _ _ _]) (cs := [_,_,_,_,_]) zAa rfl rfl rfl hs (fun b3 w4 ga => ?_))))
  refine zCj (v := .int _ _) (cs := [_]) zAa rfl rfl rfl ga (fun b6 w7 g4 => ?_)
  refine zBi rfl rfl (zBi rfl rfl (zAd (zAc (g9 _ _ (zAf (fun gA gc => (zAb (w_p (zA2 (vs := [_,_,_,_,_]) isAgg56 sizeOf56 g4 rfl rfl (aow 1 [_,_,_,_,_])) rfl (w_p (zAg isAgg3 g4 rfl rfl (aow 0 [_])) rfl ?_)))))))))
  refine w_p (zAe (o := 2) (i := 2) underlying56 rfl sizeOf52 rfl rfl rfl) rfl (w_p (zAg isAgg52 g4 rfl rfl (aow 1 [_])) rfl (w_p (zBc underlying52 rfl rfl) rfl ?_))
  refine zA4 zAa call66 rfl rfl rfl rfl (c66y f p hm.cons.cons hf (lot : Int) (f.lots.length : Int) (by omega) (by omega) hsm g4) ?_
  rintro _ gB ⟨cb, mm, rfl, gd⟩
  have ge := (show St _ _ (_ :: _ :: _ :: _ :: F) from St.pk [[_], [_], [_], [_]] [1,0,2,3] gd)
  refine w_p (zA3 rfl rfl) rfl (w_p (zAw rfl rfl rfl) rfl (w_p (zAk rfl rfl rfl) rfl (zA1 (cs := [_]) zAa zeroValue114 rfl ge (fun g0 gC gf => ?_))))
  refine zBj 0 (.pointer _) [_] sizeOf114 gf (fun gD gg => ?_)
  refine zBw rfl rfl (zAd (zAc (gc _ _ (zAf (fun gE gh => (zAf (fun gF gi => (zAb (zA6 rfl rfl (w_p (zCs rfl rfl rfl rfl) rfl (zAd (zAc (gi _ _ (zBs rfl rfl ?_))))))))))))))
  refine zAn (zAc (gh _ _ (zAf (fun gG gj => (zAb (zA1 (cs := [_]) zAa zeroValue3 rfl gg (fun gk gH gm => ?_)))))))
  refine zBj 0 (.int _ _) [_] sizeOf3 gm (fun gI g7 => ?_)
  refine zAd (zAc (gj _ _ (zAf (fun gJ gn => (zAf (fun gK go => (zAb (w_p (zAg isAgg114 g7 rfl rfl (aow 1 [_])) rfl ?_))))))))
  refine zA4 zAa call67 rfl rfl rfl rfl (c67 _ g7) ?_
  rintro _ gL ⟨bp, rfl, gp⟩
  refine zAd (zAc (go _ _ (zAq ?_)))
  refine zG0 ([_]) (fun i Bx => Bx = [(gk, blk 3 [.int .i64 ((whoSet f lot ((truths f 0).take i) : Nat) : Int)])]) (fun _ _ => False) rfl rfl rfl call88 (zDv f p 0 cb mm (CK.cons (CK.cons (CK.cons (zEs (but := 0) (cb := cb) (mm := mm) (FIn.cons (FIn.cons hm)) hf (by omega))))) bp (aow 0 [_])) gp (List.Perm.swap _ _ _) rfl ?_ ?_ ?_
  ·
   intro lp i hi Bx Xr Xr2 gM hJ hs K gq
   subst hJ
   have hi2 : i < (truths f 0).length := by simpa using hi
   rw [List.getElem_map]
   obtain ⟨x, hxe⟩ : ∃ x, x = (truths f 0)[i] := ⟨_, rfl⟩
   have hx := zFu hf (List.getElem_mem hi2)
   rw [← hxe] at hx ⊢
   have hx4 := hx.1
   have hwi := with_in hf hx hl
   obtain ⟨wq, hwq⟩ : ∃ wq : Nat, withP f x lot = (wq : Int) := ⟨(withP f x lot).toNat, by omega⟩
   have hsh := shl5 (i := wq) (by omega)
   have hws := who_small hf hl (l := (truths f 0).take i) (fun x h => zFu hf (List.mem_of_mem_take h))
   have hk : CK w0 ((bp, blk 114 [.pointer (some ⟨cb, 0, none⟩)]) :: (g0, blk 114 [.pointer (some ⟨cb, 0, none⟩)]) :: (mm, .map #[] 0) :: (cb, blk 151 [.slice p.ap f.parties.length p.cp, .slice p.au f.until_.length p.cu, .slice p.al f.lots.length p.cl, .slice p.aq f.paps.length p.cq, .slice p.ac f.clms.length p.cc, .int .i64 ((0 : Nat) : Int), .map (some mm)]) :: (b6, blk 3 [.int .i64 (lot : Int)]) :: (b3, blk 56 (f.cells p)) :: F) f p 0 cb mm := (CK.cons (CK.cons (CK.cons (zEs (but := 0) (cb := cb) (mm := mm) (FIn.cons (FIn.cons hm)) hf (by omega)))))
   have hx6 : Ats w0 ((bp, blk 114 [.pointer (some ⟨cb, 0, none⟩)]) :: (g0, blk 114 [.pointer (some ⟨cb, 0, none⟩)]) :: (mm, .map #[] 0) :: (cb, blk 151 [.slice p.ap f.parties.length p.cp, .slice p.au f.until_.length p.cu, .slice p.al f.lots.length p.cl, .slice p.aq f.paps.length p.cq, .slice p.ac f.clms.length p.cc, .int .i64 ((0 : Nat) : Int), .map (some mm)]) :: (b6, blk 3 [.int .i64 (lot : Int)]) :: (b3, blk 56 (f.cells p)) :: F) g0 0 [.pointer (some ⟨cb, 0, none⟩)] := zB9 (i := 1) rfl rfl
   have hx3 : Ats w0 ((bp, blk 114 [.pointer (some ⟨cb, 0, none⟩)]) :: (g0, blk 114 [.pointer (some ⟨cb, 0, none⟩)]) :: (mm, .map #[] 0) :: (cb, blk 151 [.slice p.ap f.parties.length p.cp, .slice p.au f.until_.length p.cu, .slice p.al f.lots.length p.cl, .slice p.aq f.paps.length p.cq, .slice p.ac f.clms.length p.cc, .int .i64 ((0 : Nat) : Int), .map (some mm)]) :: (b6, blk 3 [.int .i64 (lot : Int)]) :: (b3, blk 56 (f.cells p)) :: F) b6 0 [.int .i64 (lot : Int)] := zB9 (i := 4) rfl rfl
   replace hs := (show St _ _ (_ :: (Xr ++ ((bp, blk 114 [.pointer (some ⟨cb, 0, none⟩)]) :: (g0, blk 114 [.pointer (some ⟨cb, 0, none⟩)]) :: (mm, .map #[] 0) :: (cb, blk 151 [.slice p.ap f.parties.length p.cp, .slice p.au f.until_.length p.cu, .slice p.al f.lots.length p.cl, .slice p.aq f.paps.length p.cq, .slice p.ac f.clms.length p.cc, .int .i64 ((0 : Nat) : Int), .map (some mm)]) :: (b6, blk 3 [.int .i64 (lot : Int)]) :: (b3, blk 56 (f.cells p)) :: F))) from hs)
   refine zAb (zA1 (cs := iv [0,0,0,0]) zAa zeroValue121 rfl hs (fun gN gO gt => ?_))
   refine zDg (i := 0) (l := _) zAa sizeOf121 (by first | omega | rfl | (simp only [hx4, zL] <;> omega)) rfl rfl rfl rfl rfl gt rfl (by first | omega | rfl | (simp only [hx4, zL] <;> omega)) (fun gP gu => ?_)
   refine zAd (zAc (gq _ _ (_ :: _ :: []) gu (fun gQ g5 => ?_)))
   replace g5 := (show St _ _ (_ :: _ :: Xr2 ++ (_ :: _ :: _ :: _ :: _ :: _ :: F)) from g5)
   refine zAq ?_
   refine zCq [7] [(0,1),(1,1),(2,1),(3,1),(4,2),(5,0),(6,0),(7,3)] zB4 (zBk (by kernel_rfl)) g5 (fun gR g3 => ?_)
   refine zAz rfl zAa rfl g3 (fun _ hq => (zAg isAgg3 hq rfl rfl (aow 1 [_]))) ?_
   refine zAz rfl zAa rfl g3 (fun _ hq => (zAg isAgg114 hq.tail.tail.drop rfl rfl hx6)) ?_
   refine zAz rfl zAa rfl g3 (fun _ hq => (zCt (i := 0) isAgg121 sizeOf121 (by first | omega | rfl | (simp only [hx4, zL] <;> omega)) hq rfl rfl rfl)) ?_
   refine zAz rfl zAa rfl g3 (fun _ hq => (zAg isAgg3 hq.tail.tail.drop rfl rfl hx3)) ?_
   refine zBh rfl ?_
   refine zCo zAa call68 rfl rfl rfl rfl (c68 f p 0 cb mm hk.app.cons.cons x hx lot hl g3) (fun gS g8 => ?_)
   refine zAd (qn ⟨g8, ?_⟩)
   refine d_w rfl (fun _ => y_shl (x := 1) (y := wq) rfl rfl rfl rfl rfl (by first | rfl | omega) (by first | omega | exact zCr (by omega)) (by first | omega | exact zCr (by omega))) rfl ?_
   refine d_w rfl (fun _ => y_or (x := whoSet f lot ((truths f 0).take i)) (y := 1 <<< wq) rfl rfl rfl rfl (by first | rfl | omega) (by first | rfl | omega) (by first | omega | exact zCr (by omega)) (by first | omega | exact zCr (by omega))) rfl ?_
   refine zBr rfl ?_
   refine zBj 1 (.int _ _) [_] sizeOf3 g8 (fun gT gv => ?_)
   refine zAd (qn ?_)
   refine zBm ?_
   refine zAi (zD2 (_ :: []) gv.tail ?_)
   exact who_cells (by rw [who_step hi2, ← hxe, hwq]; rfl)
  ·
   intro bd Bx gU hJ hs
   subst hJ
   rw [List.length_map, List.take_of_length_le (Nat.le_refl _)] at hs
   have hws := who_small hf hl (l := (truths f 0)) (fun x h => zFu hf h)
   replace hs := (show St _ _ (_ :: _ :: ((bp, blk 114 [.pointer (some ⟨cb, 0, none⟩)]) :: (g0, blk 114 [.pointer (some ⟨cb, 0, none⟩)]) :: (mm, .map #[] 0) :: (cb, blk 151 [.slice p.ap f.parties.length p.cp, .slice p.au f.until_.length p.cu, .slice p.al f.lots.length p.cl, .slice p.aq f.paps.length p.cq, .slice p.ac f.clms.length p.cc, .int .i64 ((0 : Nat) : Int), .map (some mm)]) :: (b6, blk 3 [.int .i64 (lot : Int)]) :: (b3, blk 56 (f.cells p)) :: F)) from hs)
   refine zAi (zAc (gn _ _ (zAf (fun gV gw => (zAb (w_p (zAg isAgg3 hs rfl rfl (aow 1 [_])) rfl (w_p (zAe (o := 0) (i := 0) underlying56 rfl sizeOf51 rfl rfl rfl) rfl ?_)))))))
   refine w_p (zAg isAgg51 hs rfl rfl (aow 7 [_])) rfl (w_p (zBc underlying51 rfl rfl) rfl ?_)
   refine zA4 zAa call69 rfl rfl rfl rfl (c69 (whoSet f lot (truths f 0)) f.parties.length (by omega) (by omega) hs) ?_
   rintro _ gW ⟨B, aB, cB, rfl, hslB, g6⟩
   replace g6 := (show St _ _ (B ++ (_ :: _ :: _ :: _ :: _ :: _ :: _ :: _ :: F)) from g6)
   have gx := (show St _ _ (_ :: _ :: _ :: _ :: _ :: _ :: _ :: _ :: (B ++ (F))) from St.pk [B, [_], [_], [_], [_], [_], [_], [_], [_]] [1,2,3,4,5,6,7,8,0] g6)
   refine w_p (zBz rfl rfl) rfl (zBi rfl rfl (zAd (zAc (gw _ _ (zA8 (zGa (i := 0) (l := [.tmp 4, .tmp 5]) (vs := [_,_]) gx rfl rfl (fun gX gy => ⟨⟨⟨rfl, show _ = (.slice _ _ _ : Value) from rfl⟩, ⟨rfl, (rfl : _ = Value.int _ _)⟩, trivial⟩, ?_⟩)))))))
   have gz := (show St _ _ ((B ++ (F))) from gy.tail.tail.tail.tail.tail.tail.tail.tail)
   exact ⟨B, aB, cB, rfl, hslB, gz⟩
  intro _ _ _ _ hJ
  exact hJ.elim

theorem c31z {w0 w : World} {F : List (Nat × Obj)} (f : File) (p : AtF) (hm : FIn w0 F f p) (hf : f.Ok) (hsm : truths f 0 = []) (lot : Nat) (hl : lot < f.lots.length) (hs : St w0 w F) :
  Con Tryz.prog 31 [.agg (f.cells p).toArray, .int .i64 (lot : Int)] w fun v w' => v = .tuple #[.slice none 0 0, .int .i64 8] ∧ St w0 w' F := by
  refine zAo (n := 37) func31 rfl rfl (zNl rfl) ?_
  have hlc := hf.lc
  have hll := hf.ll
  have hnp := hf.np
  refine zAf (fun K2 g3 => (zAb (zCj (v := .agg #[.slice _ _ _, .slice _ _ _, .slice _ _ _, .slice _ _ _, .slice _ _ _]) (cs := [_,_,_,_,_]) zAa rfl rfl rfl hs (fun b3 w4 g4 => ?_))))
  refine zCj (v := .int _ _) (cs := [_]) zAa rfl rfl rfl g4 (fun b6 w7 g0 => ?_)
  refine zBi rfl rfl (zBi rfl rfl (zAd (zAc (g3 _ _ (zAf (fun gc g5 => (zAb (w_p (zA2 (vs := [_,_,_,_,_]) isAgg56 sizeOf56 g0 rfl rfl (aow 1 [_,_,_,_,_])) rfl (w_p (zAg isAgg3 g0 rfl rfl (aow 0 [_])) rfl ?_)))))))))
  refine w_p (zAe (o := 2) (i := 2) underlying56 rfl sizeOf52 rfl rfl rfl) rfl (w_p (zAg isAgg52 g0 rfl rfl (aow 1 [_])) rfl (w_p (zBc underlying52 rfl rfl) rfl ?_))
  refine zCo zAa call66 rfl rfl rfl rfl (c66z f p hm.cons.cons hf (lot : Int) (f.lots.length : Int) (by omega) (by omega) hsm g0) (fun gd g6 => ?_)
  refine w_p (zA3 rfl rfl) rfl (w_p (zAw rfl rfl rfl) rfl (w_p (zAk rfl rfl rfl) rfl (zA1 (cs := [_]) zAa zeroValue114 rfl g6 (fun ge gf g7 => ?_))))
  refine zBj 0 (.pointer _) [_] sizeOf114 g7 (fun gg g8 => ?_)
  refine zBw rfl rfl (zAd (zAc (g5 _ _ (zAf (fun gh gi => (zAf (fun gj g9 => (zAb (zA6 rfl rfl (w_p (zCs rfl rfl rfl rfl) rfl (zAd (zAc (g9 _ _ (zDb rfl rfl ?_))))))))))))))
  refine zAf (fun gk ga => (zAb (zA6 rfl rfl (zBi rfl rfl (zBw rfl rfl (zAd (zAc (ga _ _ (zA8 (zAl (zBa (l := [.tmp 4, .tmp 5]) (vs := [_,_]) rfl ⟨⟨rfl, show _ = (.slice _ _ _ : Value) from rfl⟩, ⟨rfl, (rfl : _ = Value.int _ _)⟩, trivial⟩ ?_)))))))))))
  exact ⟨rfl, g8.tail.tail.tail⟩

end Go.Proofs.Uc
