/- Own texts of this claim, joined. No conditions. -/
import Derived.Test.YtjhhifdfgeccoaaGreatHTopTurneda
import Derived.Test.YtjhhifdfgeccoaaGreatHTopTurnedb
import Derived.Test.YtjhhifdfgeccoaaGreatHTopTurnedc
import Derived.Test.YtjhhifdfgeccoaaGreatHTopTurnedd
set_option linter.unusedVariables false
set_option linter.unusedSimpArgs false
set_option maxRecDepth 20000
namespace Go.Proofs.Ut
open Go.Proofs.Tryz
open Go.Rt Go.Rt.Tu
open Go.Rt.Ha (firstE zB3 zAp zBn failE felt spanL upto zBv listL fewest fewTo bit Bunch before fewStep zB8 zCi zBx zB2 zCg zCf zBu)
attribute [local irreducible] WL WC Con Yd At Ats Sl Agree DW
theorem zIo (x0 : Int) (w : World) : (Instr.buildSlice 22 1 [(0, .int .i64 x0)].toArray).run Tryz.prog w = .ok (.slice (some ⟨w.heap.size, 0, none⟩) 1 1) (w.alloc (Go.Rt.blk 3 [.int .i64 x0])) := by kernel_rfl
theorem zGt (x0 : Bool) (x1 : Int) (w : World) : (Instr.buildSlice 132 1 [(0, .agg #[.bool x0, .int .i64 x1])].toArray).run Tryz.prog w = .ok (.slice (some ⟨w.heap.size, 0, none⟩) 1 1) (w.alloc (Go.Rt.blk 88 [.bool x0, .int .i64 x1])) := by kernel_rfl
theorem Try_UK_fb3 (x0 : Go.Fn) (a0 c0 : Array Value) (w : World) : (Instr.build 98 [(0, .func x0 a0 c0)].toArray).run Tryz.prog w = .ok (.agg #[.func x0 a0 c0]) w := by kernel_rfl
theorem Try_UK_fb4 (x0 : Bool) (x1 : Int) (w : World) : (Instr.build 88 [(0, .bool x0),(1, .int .i64 x1)].toArray).run Tryz.prog w = .ok (.agg #[.bool x0, .int .i64 x1]) w := by kernel_rfl
theorem Try_UK_fb5 (x0 : Int) (x1 : Int) (w : World) : (Instr.buildSlice 22 2 [(0, .int .i64 x0),(1, .int .i64 x1)].toArray).run Tryz.prog w = .ok (.slice (some ⟨w.heap.size, 0, none⟩) 2 2) (w.alloc (Go.Rt.blk 3 [.int .i64 x0, .int .i64 x1])) := by kernel_rfl
theorem zGs (x0 : Bool) (x1 : Int) (x2 : Bool) (x3 : Int) (w : World) : (Instr.buildSlice 132 2 [(0, .agg #[.bool x0, .int .i64 x1]),(1, .agg #[.bool x2, .int .i64 x3])].toArray).run Tryz.prog w = .ok (.slice (some ⟨w.heap.size, 0, none⟩) 2 2) (w.alloc (Go.Rt.blk 88 [.bool x0, .int .i64 x1, .bool x2, .int .i64 x3])) := by kernel_rfl
theorem c51 {w0 w : World} {F : List (Nat × Obj)} (aa : Option Addr) (l : List Int) (ca : Nat) (h0 : 0 < l.length) (hl : l.length ≤ 1000) (ha : Sl w0 F aa 1 (l.map fun x => [Value.int .i64 x])) (hs : St w0 w F) :
  Con Tryz.prog 51 [.slice aa l.length ca] w fun v w' => v = .int .i64 (minTo l (l.length - 1)) ∧ St w0 w' F := by
  refine zAo (n := 25) func51 rfl rfl (zNl rfl) ?_
  have hg : ∀ i (h : i < l.length), l[i] = l.getD i 0 := fun i h => by simp [List.getD, h]
  obtain ⟨b0, o0, rfl, hx0⟩ := zCx ha h0
  refine zAf (fun K2 g3 => (zAb (zBi rfl rfl (zAd (zAc (g3 _ _ (zAf (fun K4 g4 => (zAf (fun K6 g5 => (zAb (w_p (zAx rfl rfl) rfl ?_))))))))))))
  refine w_p (zBc underlying22 rfl rfl) rfl (w_p (zCp rfl rfl rfl rfl) rfl (zAd (zAc (g5 _ _ (zAr rfl rfl (fun h7 => ?_) (fun h7 => ?_))))))
  ·
   exfalso
   try simp only [zS] at h7
   omega
  try simp only [zS] at h7
  refine zAn (zAc (g4 _ _ (zAf (fun K9 g6 => (zAb (w_p (zAx rfl rfl) rfl (w_p (zA7 underlying22 sizeOf3 rfl rfl rfl rfl (i := 0) rfl (by omega)) rfl (w_p (zAg isAgg3 hs rfl rfl hx0) rfl ?_))))))))
  refine zBw rfl rfl (zAd (zAc (g6 _ _ (zAf (fun gf g7 => (zAf (fun gg g8 => (zAb (zBi rfl rfl (zAd (zAc (g8 _ _ (zAq ?_)))))))))))))
  refine zB6 [3,4,12,13,14,15,16,17,18,19,20,21,22,23] [3,4] (fun k vs w => ∃ i : Nat, vs = [.int .i64 (minTo l i), .int .i64 ((i : Int) + 1)] ∧ i + 1 ≤ l.length ∧ k = l.length - i ∧ St w0 w F) (l.length) ?_ ?_
  ·
   exact ⟨0, iv2 (hg 0 h0) rfl, by omega, by omega, hs⟩
  intro k vs μ gh hI gi g9
  obtain ⟨i, rfl, hia, rfl, hs⟩ := hI
  refine zAf (fun gj ga => (zAf (fun gk gc => (zAb (zA6 rfl rfl (w_p (zAx rfl rfl) rfl (w_p (zBc underlying22 rfl rfl) rfl (w_p (zCp rfl rfl rfl rfl) rfl (zAd (zAc (gc _ _ (zAr rfl rfl (fun g0 => ?_) (fun g0 => ?_)))))))))))))
  ·
   try simp only [zS] at g0
   refine zAn (zAc (ga _ _ (zAf (fun gm gd => (zAq ?_)))))
   have hi2 : i + 1 < l.length := by omega
   obtain ⟨b1, o1, hb1, hx1⟩ := zCx ha hi2
   cases hb1
   refine zAb (zA6 rfl rfl (w_p (zAx rfl rfl) rfl (zA6 rfl rfl (w_p (zA7 underlying22 sizeOf3 rfl rfl rfl rfl (i := i + 1) (by omega) (by omega)) rfl (w_p (zAg isAgg3 hs rfl rfl hx1) rfl (w_p (zG9 rfl rfl rfl rfl) rfl ?_))))))
   refine zBw rfl rfl (zAd (zAi (zAc (gd _ _ (zAb (zA6 rfl rfl (w_p (zBo rfl rfl rfl rfl (by omega) (by omega)) rfl (zBw rfl rfl (zAd (zAc (g9 _ _ (nxI (l.length - (i + 1)) (by omega) ?_))))))))))))
   exact ⟨i + 1, iv2 (by rw [hg]; rfl) (by omega), by omega, rfl, hs⟩
  try simp only [zS] at g0
  refine zBt (zAj (zAj (zAv (zAc (g7 _ _ (zAf (fun gn ge => (zAb (zA6 rfl rfl (zBw rfl rfl (zAd (zAc (ge _ _ (zA8 (zBa (l := [.tmp 2]) (vs := [_]) rfl ⟨⟨rfl, (rfl : _ = Value.int _ _)⟩, trivial⟩ ?_)))))))))))))))
  have hil : i = l.length - 1 := by omega
  subst hil
  exact ⟨rfl, hs⟩

theorem first_no {c : Cargo} {n : Nat} {s : List Int} (h : ¬ (times c s).getD n 0 < never c) : false = firstQ c n s := by unfold firstQ tOf; rw [decide_eq_false h]; rfl
theorem first_yes {c : Cargo} {n : Nat} {s : List Int} (h : (times c s).getD n 0 < never c) : decide (minTo (times c s) (5 - 1) = (times c s).getD n 0) = firstQ c n s := by unfold firstQ tOf; rw [decide_eq_true h]; rfl
theorem firstP_e {c : Cargo} {n : Int} (h : ¬ enterE c [noneA c.holds.length [n]] = 0) : firstP c n = ([], enterE c [noneA c.holds.length [n]]) := by unfold firstP; rw [if_pos h]
theorem firstP_y {c : Cargo} {n : Int} (h : enterE c [noneA c.holds.length [n]] = 0) : firstP c n = (firstTo c n.toNat c.lots.length, 0) := by unfold firstP; rw [if_neg (by simp [h])]
theorem firstT_yes {c : Cargo} {n i : Nat} (hi : i < c.lots.length) (h : c.lots[i].hold = (n : Int)) (h2 : ¬ Tu.ask c n (firstQ c i) = 2) : firstTo c n (i + 1) = firstTo c n i ++ [(i : Int)] := by rw [firstTo, zC5 hi, if_pos ⟨h, h2⟩]
theorem firstT_no {c : Cargo} {n i : Nat} (hi : i < c.lots.length) (h : ¬ c.lots[i].hold = (n : Int) ∨ Tu.ask c n (firstQ c i) = 2) : firstTo c n (i + 1) = firstTo c n i := by
  rw [firstTo, zC5 hi, if_neg (by rintro ⟨h1, h2⟩; rcases h with h | h; exact h h1; exact h2 h)]
theorem first_len (c : Cargo) (n : Nat) : ∀ i, (firstTo c n i).length ≤ i
  | 0 => Nat.le_refl _
  | i + 1 => by
    have := first_len c n i
    rw [firstTo]; split
    · simp; omega
    · omega
theorem spoilsP_e {c : Cargo} {a b : Int} (h : ¬ enterE c (spoilsL c a b) = 0) : spoilsP c a b = (0, enterE c (spoilsL c a b)) := by unfold spoilsP; rw [if_pos h]
theorem spoilsP_y {c : Cargo} {a b : Int} (h : enterE c (spoilsL c a b) = 0) : spoilsP c a b = (Tu.ask c (holdOf c b.toNat) (spoilsQ c a.toNat b.toNat), 0) := by unfold spoilsP; rw [if_neg (by simp [h])]
theorem c50 {w0 w : World} {F : List (Nat × Obj)} (c : Cargo) (p : AtT) (cb mm : Nat) (hk : CK w0 F c p 0 cb mm) (n : Nat) (hn5 : n < 5) (b7 b6 : Nat) (h7 : Ats w0 F b7 0 [.int .i64 (n : Int)]) (h6 : Ats w0 F b6 0 [.pointer (some ⟨cb, 0, none⟩)]) (s : List Int) (hls : s.length = 8) (hs : St w0 w F) :
  Con Tryz.prog 50 [ia s, ia (times c s), .pointer (some ⟨b7,0, none⟩), .pointer (some ⟨b6,0, none⟩)] w fun v w' => v = .bool (firstQ c n s) ∧ St w0 w' F := by
  refine zAo (n := 21) func50 rfl rfl (zNl rfl) ?_
  have htl := zBf c s
  refine zAf (fun K2 g7 => (zAb (zEi (l := _) zAa rfl rfl rfl hs (fun b3 w4 g8 => ?_))))
  refine zEi (l := _) zAa rfl rfl rfl g8 (fun b6 w7 g9 => ?_)
  refine zBi rfl rfl (zAd (zAc (g7 _ _ (zAf (fun ga g6 => (zCq [] [(0,1),(1,0),(2,1),(3,1),(4,2),(5,0),(6,0),(7,0),(9,1),(10,0),(11,1),(8,2),(12,0),(13,0),(14,0)] zB4 (zBk (by kernel_rfl)) g9 (fun gc g3 => ?_)))))))
  refine zAz rfl zAa rfl g3 (fun _ hq => (zAg isAgg3 hq.tail.tail rfl rfl h7)) ?_
  refine d_w rfl (fun _ => zCw underlying92 sizeOf3 rfl rfl rfl rfl (i := n) (by first | rfl | omega) (by omega)) rfl ?_
  refine zAz rfl zAa rfl g3 (fun _ hq => (zAg isAgg3 hq rfl rfl (zC9 (i := 0) (j := n) rfl (by first | omega | rfl | (simp only [hls, zBf, zL] <;> omega))))) ?_
  refine zAz rfl zAa rfl g3 (fun _ hq => (zAg isAgg84 hq.tail.tail rfl rfl h6)) ?_
  refine zBh rfl ?_
  refine zCo zAa call46 rfl rfl rfl rfl (c46 c _ 0 cb mm hk.cons.cons g3) (fun gd g0 => ?_)
  refine zAd (qn ⟨g0, ?_⟩)
  refine d_w rfl (fun _ => zCp rfl rfl rfl rfl) rfl (d_w rfl (fun _ => zAt rfl rfl) rfl ?_)
  refine zC6 (fun g4 => ?_) (fun g4 => ?_)
  ·
   try simp only [zS] at g4
   refine zBe rfl (zAh rfl rfl rfl) rfl (fun _ => (y_sliceA underlying92 sizeOf3 rfl rfl)) ?_
   refine zAz rfl (zAh rfl rfl rfl) rfl g0 (fun _ hq => (zAg isAgg3 hq.tail.tail rfl rfl h7)) ?_
   refine zBe rfl (zAh rfl rfl rfl) rfl (fun _ => (zCw underlying92 sizeOf3 rfl rfl rfl rfl (i := n) (by first | rfl | omega) (by omega))) ?_
   refine zAz rfl (zAh rfl rfl rfl) rfl g0 (fun _ hq => (zAg isAgg3 hq rfl rfl (zC9 (i := 0) (j := n) rfl (by first | omega | rfl | (simp only [hls, zBf, zL] <;> omega))))) ?_
   refine zBh rfl ?_
   refine zA4 (zAh rfl rfl rfl) call51 rfl rfl rfl rfl ((by have h := c51 _ (times c s) 5 (by omega) (by omega) (zFx (i := 0) rfl) g0; rw [zBf] at h; exact h)) ?_
   rintro _ ge ⟨rfl, g5⟩
   refine zAd (qn ⟨g5, ?_⟩)
   refine zBe rfl (zAh rfl rfl rfl) rfl (fun _ => (zCa rfl rfl rfl rfl)) ?_
   refine d_w rfl (fun _ => zA5 (v := .bool _) rfl rfl rfl rfl) rfl (d_w rfl (fun _ => zAs rfl rfl) rfl ?_)
   refine zBm ?_
   refine zAc (g6 _ _ (zA8 (zBa (l := [.tmp 6]) (vs := [_]) rfl ⟨⟨rfl, (rfl : _ = Value.bool _)⟩, trivial⟩ ?_)))
   first
     | exact ⟨congrArg Value.bool (first_yes (by omega)), g5.tail.tail⟩
     | exact ⟨congrArg Value.bool (first_no (by omega)), g5.tail.tail⟩
  try simp only [zS] at g4
  refine zBl rfl rfl rfl rfl ?_
  refine zCb rfl rfl rfl rfl g0 ?_
  refine zBl rfl rfl rfl rfl ?_
  refine zCb rfl rfl rfl rfl g0 ?_
  refine zBh rfl ?_
  refine zAm rfl rfl rfl ?_
  refine zAd (qn ⟨g0, ?_⟩)
  refine zBl rfl rfl rfl rfl ?_
  refine d_w rfl (fun _ => zBg (v := _) rfl rfl rfl rfl) rfl (d_w rfl (fun _ => zAs rfl rfl) rfl ?_)
  refine zBm ?_
  refine zAc (g6 _ _ (zA8 (zBa (l := [.tmp 6]) (vs := [_]) rfl ⟨⟨rfl, (rfl : _ = Value.bool _)⟩, trivial⟩ ?_)))
  first
    | exact ⟨congrArg Value.bool (first_yes (by omega)), g0.tail.tail⟩
    | exact ⟨congrArg Value.bool (first_no (by omega)), g0.tail.tail⟩

theorem first_qis {w0 : World} {F : List (Nat × Obj)} (c : Cargo) (p : AtT) (cb mm : Nat) (hk : CK w0 F c p 0 cb mm) (hco : c.Ok) (hold : Nat) (hh : hold < c.holds.length) (n : Nat) (hn5 : n < 5) (b7 b6 : Nat) (h7 : Ats w0 F b7 0 [.int .i64 (n : Int)]) (h6 : Ats w0 F b6 0 [.pointer (some ⟨cb, 0, none⟩)]) : QIs w0 F c mm hold (.func (.func 50) #[] #[.pointer (some ⟨b7,0, none⟩), .pointer (some ⟨b6,0, none⟩)]) (firstQ c n) (fun i B => B = []) := by
  intro i hi B M X w hB hM hs
  subst hB
  refine (zDm call50 (c50 (F := X ++ (M ++ F)) c p cb mm hk.app.app n hn5 b7 b6 h7.app.app h6.app.app _ (zEg hco hh (List.getElem_mem hi)).1.len hs)).mono ?_
  rintro v w' ⟨rfl, g0⟩
  exact ⟨rfl, [], M, rfl, hM, g0⟩
theorem c21 {w0 w : World} {F : List (Nat × Obj)} (c : Cargo) (p : AtT) (hm : TIn w0 F c p) (hold : Int) (hs : St w0 w F) :
  Con Tryz.prog 21 [.agg (c.cells p).toArray, .int .i64 hold] w fun v w' => ∃ B a c', v = .tuple #[.slice a (firstP c hold).1.length c', .int .i64 (firstP c hold).2] ∧ Sl w0 B a 1 ((firstP c hold).1.map fun x => [Value.int .i64 x]) ∧ St w0 w' (B ++ F) := by
  refine zAo (n := 52) func21 rfl rfl (zNl rfl) ?_
  have hll0 := hm.ll
  have hlh0 := hm.lh
  refine zAf (fun K2 gG => (zAb (zCj (v := .agg #[.slice _ _ _, .int _ _, .slice _ _ _, .slice _ _ _, .slice _ _ _]) (cs := [_,_,_,_,_]) zAa rfl rfl rfl hs (fun b3 w4 gH => ?_))))
  refine zBi rfl rfl (zBi rfl rfl (zAd (zAc (gG _ _ (zAf (fun K7 go => (w_cut [5,6,10,11,12,13,14,15,16,17,18,19,20,21] [5,6] (fun vs w => ∃ bc, (¬ enterE c [noneA c.holds.length [hold]] = 0 ∧ vs = [.int .i64 (enterE c [noneA c.holds.length [hold]]), .pointer (some ⟨bc, 0, none⟩)] ∧ St w0 w ((b3, blk 27 (c.cells p)) :: F)) ∨ (enterE c [noneA c.holds.length [hold]] = 0 ∧ ∃ cb mm M, vs = [.int .i64 0, .pointer (some ⟨bc, 0, none⟩)] ∧ Memo c mm M ∧ St w0 w ((cb, blk 138 [.slice p.ae c.heat.length p.ce, .int .i64 c.gas, .slice p.ah c.holds.length p.ch, .slice p.al c.lots.length p.cl, .slice p.an c.seen.length p.cn, .int .i64 ((0 : Nat) : Int), .map (some mm)]) :: (bc, blk 84 [.pointer (some ⟨cb, 0, none⟩)]) :: (b3, blk 27 (c.cells p)) :: (M ++ F)))) (fun K9 g0 => ?_) ?_)))))))
  ·
   refine w_drawT (C := fun w => St w0 w _) [13] (.two [(0,1),(1,0),(2,1),(3,0),(4,0)] 5 12 (.two [] 6 12 (.two [] 7 12 (.two [] 8 12 (.done [(9,0),(10,0),(11,0),(12,2),(13,3),(14,0)]) (.done [(8,2),(9,0),(10,0),(11,0),(13,3),(14,0)])) (.done [(7,2),(8,2),(9,0),(10,0),(11,0),(13,3),(14,0)])) (.done [(6,2),(7,2),(8,2),(9,0),(10,0),(11,0),(13,3),(14,0)])) (.done [(5,2),(6,2),(7,2),(8,2),(9,0),(10,0),(11,0),(13,3),(14,0)])) zB4 (by kernel_rfl) gH (fun _ h => h.drew) (fun js g9 => ?_)
   refine zFq ?_
   refine zAz rfl zAa rfl g9 (fun _ hq => (zA2 (vs := [_,_,_,_,_]) isAgg27 sizeOf27 hq rfl rfl (aow 0 [_,_,_,_,_]))) ?_
   refine d_w rfl (fun _ => zAe (o := 2) (i := 2) underlying27 rfl sizeOf23 rfl rfl rfl) rfl ?_
   refine zAz rfl zAa rfl g9 (fun _ hq => (zAg isAgg23 hq rfl rfl (aow 0 [_]))) ?_
   refine d_w rfl (fun _ => zBc underlying23 rfl rfl) rfl (d_w rfl (fun _ => zAy rfl rfl) rfl ?_)
   refine zIk rfl rfl ?_ ?_
   ·
    refine zAu (ps := [(0, _)]) (pv := [(0, .int _ _)]) (cs := [_]) zAa rfl rfl (fun w => zIo _ w) g9 (fun jt ju gc => ?_)
    refine zAd (qn ⟨gc.tail, ?_⟩)
    refine zFq ?_
    refine zIk rfl rfl ?_ ?_
    ·
     refine zCo zAa call43 rfl rfl rfl rfl (c43 _ (by omega) _ _ [_] (by simp) (zBb (i := 0) (rows := [[_]]) rfl (by simp) rfl) gc) (fun jv gd => ?_)
     refine zAd (qn ⟨gd.tail, ?_⟩)
     refine zFq ?_
     refine zIk rfl rfl ?_ ?_
     ·
      refine zAu (ps := [(0, _)]) (pv := [(0, .agg #[.bool _, .int _ _])]) (cs := [_,_]) zAa rfl rfl (fun w => zGt _ _ w) gd (fun jw jx ge => ?_)
      refine zAd (qn ⟨ge.tail.tail, ?_⟩)
      refine zFq ?_
      refine zIk rfl rfl ?_ ?_
      ·
       refine zA4 zAa call42 rfl rfl rfl rfl (c42 c _ hm.cons.cons.cons _ _ [noneA c.holds.length [hold]] (by simp [spoilsL, putL, outL]) (fun x hx _ => by simp only [List.mem_cons, List.not_mem_nil, or_false] at hx; rcases hx with rfl <;> simp [noneA, hoursA]) (zBb (i := 0) (rows := (arows [noneA c.holds.length [hold]])) rfl (arow2 _) rfl) ge) ?_
       rintro _ jy (⟨hee, rfl, g3⟩ | ⟨hee, cb, mm, M, rfl, hM, g3⟩)
       ·
        refine zAd (qn ⟨g3.tail.tail, ?_⟩)
        refine zDs ?_
        refine d_w rfl (fun _ => zA3 rfl rfl) rfl (d_w rfl (fun _ => zAw rfl rfl rfl) rfl (d_w rfl (fun _ => zAk rfl rfl rfl) rfl ?_))
        refine zBh rfl ?_
        refine zA1 (cs := [_]) zAa zeroValue84 rfl g3 (fun jz jA gp => ?_)
        refine zAd (qn ⟨gp.tail.tail.tail, ?_⟩)
        refine zBr rfl ?_
        refine zBj 0 (.pointer _) [_] sizeOf84 gp (fun jB gI => ?_)
        refine zAd (qn ?_)
        refine d_w rfl (fun _ => zA0 rfl rfl) rfl ?_
        refine zBm ?_
        refine zAc (g0 _ _ (mdI ?_))
        have gJ := (show St _ _ (_ :: F) from gI.tail.tail.tail)
        exact ⟨_, .inl ⟨hee, rfl, gJ⟩⟩
       replace g3 := (show St _ _ (M ++ (_ :: _ :: _ :: _ :: F)) from g3)
       refine zAd (qn ⟨g3.drop.tail.tail.tail, ?_⟩)
       refine zDs ?_
       refine d_w rfl (fun _ => zA3 rfl rfl) rfl (d_w rfl (fun _ => zAw rfl rfl rfl) rfl (d_w rfl (fun _ => zAk rfl rfl rfl) rfl ?_))
       refine zBh rfl ?_
       refine zA1 (cs := [_]) zAa zeroValue84 rfl g3 (fun jC jD gq => ?_)
       refine zAd (qn ⟨gq.tail.drop.tail.tail.tail, ?_⟩)
       have gK := (show St _ _ (_ :: _ :: _ :: _ :: _ :: (M ++ (F))) from St.pk [[_], M, [_], [_], [_], [_]] [0,2,3,4,5,1] gq)
       refine zBr rfl ?_
       refine zBj 0 (.pointer _) [_] sizeOf84 gK (fun jE gL => ?_)
       refine zAd (qn ?_)
       refine d_w rfl (fun _ => zA0 rfl rfl) rfl ?_
       refine zBm ?_
       refine zAc (g0 _ _ (mdI ?_))
       have gM := (show St _ _ (_ :: _ :: _ :: (M ++ (F))) from St.pk [[_], [_], [_], [_], [_], M] [1,0,4,5] gL)
       exact ⟨_, .inr ⟨hee, cb, mm, M, rfl, hM, gM⟩⟩
      refine zA1 (cs := [_]) zAa zeroValue84 rfl ge (fun jF jG gt => ?_)
      refine zAd (qn ⟨gt.tail.tail.tail, ?_⟩)
      refine zDs ?_
      refine zBh rfl ?_
      refine zA4 zAa call42 rfl rfl rfl rfl (c42 c _ hm.cons.cons.cons.cons _ _ [noneA c.holds.length [hold]] (by simp [spoilsL, putL, outL]) (fun x hx _ => by simp only [List.mem_cons, List.not_mem_nil, or_false] at hx; rcases hx with rfl <;> simp [noneA, hoursA]) (zBb (i := 1) (rows := (arows [noneA c.holds.length [hold]])) rfl (arow2 _) rfl) gt) ?_
      rintro _ jH (⟨hee, rfl, g4⟩ | ⟨hee, cb, mm, M, rfl, hM, g4⟩)
      ·
       refine zAd (qn ⟨g4.tail.tail.tail, ?_⟩)
       refine d_w rfl (fun _ => zA3 rfl rfl) rfl (d_w rfl (fun _ => zAw rfl rfl rfl) rfl (d_w rfl (fun _ => zAk rfl rfl rfl) rfl ?_))
       refine zBr rfl ?_
       refine zBj 0 (.pointer _) [_] sizeOf84 g4 (fun jI gN => ?_)
       refine zAd (qn ?_)
       refine d_w rfl (fun _ => zA0 rfl rfl) rfl ?_
       refine zBm ?_
       refine zAc (g0 _ _ (mdI ?_))
       have gO := (show St _ _ (_ :: F) from gN.tail.tail.tail)
       exact ⟨_, .inl ⟨hee, rfl, gO⟩⟩
      replace g4 := (show St _ _ (M ++ (_ :: _ :: _ :: _ :: _ :: F)) from g4)
      refine zAd (qn ⟨g4.drop.tail.tail.tail.tail, ?_⟩)
      refine d_w rfl (fun _ => zA3 rfl rfl) rfl (d_w rfl (fun _ => zAw rfl rfl rfl) rfl (d_w rfl (fun _ => zAk rfl rfl rfl) rfl ?_))
      have gP := (show St _ _ (_ :: _ :: _ :: _ :: _ :: (M ++ (F))) from St.pk [M, [_], [_], [_], [_], [_]] [1,2,3,4,5,0] g4)
      refine zBr rfl ?_
      refine zBj 1 (.pointer _) [_] sizeOf84 gP (fun jJ gQ => ?_)
      refine zAd (qn ?_)
      refine d_w rfl (fun _ => zA0 rfl rfl) rfl ?_
      refine zBm ?_
      refine zAc (g0 _ _ (mdI ?_))
      have gR := (show St _ _ (_ :: _ :: _ :: (M ++ (F))) from St.pk [[_], [_], [_], [_], [_], M] [0,1,4,5] gQ)
      exact ⟨_, .inr ⟨hee, cb, mm, M, rfl, hM, gR⟩⟩
     refine zA1 (cs := [_]) zAa zeroValue84 rfl gd (fun jK jL gu => ?_)
     refine zAd (qn ⟨gu.tail.tail, ?_⟩)
     refine zDs ?_
     refine zBh rfl ?_
     refine zAu (ps := [(0, _)]) (pv := [(0, .agg #[.bool _, .int _ _])]) (cs := [_,_]) zAa rfl rfl (fun w => zGt _ _ w) gu (fun jM jN gv => ?_)
     refine zAd (qn ⟨gv.tail.tail.tail, ?_⟩)
     refine zBh rfl ?_
     refine zA4 zAa call42 rfl rfl rfl rfl (c42 c _ hm.cons.cons.cons.cons _ _ [noneA c.holds.length [hold]] (by simp [spoilsL, putL, outL]) (fun x hx _ => by simp only [List.mem_cons, List.not_mem_nil, or_false] at hx; rcases hx with rfl <;> simp [noneA, hoursA]) (zBb (i := 0) (rows := (arows [noneA c.holds.length [hold]])) rfl (arow2 _) rfl) gv) ?_
     rintro _ jO (⟨hee, rfl, g5⟩ | ⟨hee, cb, mm, M, rfl, hM, g5⟩)
     ·
      refine zAd (qn ⟨g5.tail.tail.tail, ?_⟩)
      refine d_w rfl (fun _ => zA3 rfl rfl) rfl (d_w rfl (fun _ => zAw rfl rfl rfl) rfl (d_w rfl (fun _ => zAk rfl rfl rfl) rfl ?_))
      refine zBr rfl ?_
      refine zBj 1 (.pointer _) [_] sizeOf84 g5 (fun jP gS => ?_)
      refine zAd (qn ?_)
      refine d_w rfl (fun _ => zA0 rfl rfl) rfl ?_
      refine zBm ?_
      refine zAc (g0 _ _ (mdI ?_))
      have gT := (show St _ _ (_ :: F) from gS.tail.tail.tail)
      exact ⟨_, .inl ⟨hee, rfl, gT⟩⟩
     replace g5 := (show St _ _ (M ++ (_ :: _ :: _ :: _ :: _ :: F)) from g5)
     refine zAd (qn ⟨g5.drop.tail.tail.tail.tail, ?_⟩)
     refine d_w rfl (fun _ => zA3 rfl rfl) rfl (d_w rfl (fun _ => zAw rfl rfl rfl) rfl (d_w rfl (fun _ => zAk rfl rfl rfl) rfl ?_))
     have gU := (show St _ _ (_ :: _ :: _ :: _ :: _ :: (M ++ (F))) from St.pk [M, [_], [_], [_], [_], [_]] [1,2,3,4,5,0] g5)
     refine zBr rfl ?_
     refine zBj 2 (.pointer _) [_] sizeOf84 gU (fun jQ gV => ?_)
     refine zAd (qn ?_)
     refine d_w rfl (fun _ => zA0 rfl rfl) rfl ?_
     refine zBm ?_
     refine zAc (g0 _ _ (mdI ?_))
     have gW := (show St _ _ (_ :: _ :: _ :: (M ++ (F))) from St.pk [[_], [_], [_], [_], [_], M] [0,2,4,5] gV)
     exact ⟨_, .inr ⟨hee, cb, mm, M, rfl, hM, gW⟩⟩
    refine zA1 (cs := [_]) zAa zeroValue84 rfl gc (fun jR jS gw => ?_)
    refine zAd (qn ⟨gw.tail.tail, ?_⟩)
    refine zDs ?_
    refine zBh rfl ?_
    refine zCo zAa call43 rfl rfl rfl rfl (c43 _ (by omega) _ _ [_] (by simp) (zBb (i := 1) (rows := [[_]]) rfl (by simp) rfl) gw) (fun jT gx => ?_)
    refine zAd (qn ⟨gx.tail.tail, ?_⟩)
    refine zBh rfl ?_
    refine zAu (ps := [(0, _)]) (pv := [(0, .agg #[.bool _, .int _ _])]) (cs := [_,_]) zAa rfl rfl (fun w => zGt _ _ w) gx (fun jU jV gy => ?_)
    refine zAd (qn ⟨gy.tail.tail.tail, ?_⟩)
    refine zBh rfl ?_
    refine zA4 zAa call42 rfl rfl rfl rfl (c42 c _ hm.cons.cons.cons.cons _ _ [noneA c.holds.length [hold]] (by simp [spoilsL, putL, outL]) (fun x hx _ => by simp only [List.mem_cons, List.not_mem_nil, or_false] at hx; rcases hx with rfl <;> simp [noneA, hoursA]) (zBb (i := 0) (rows := (arows [noneA c.holds.length [hold]])) rfl (arow2 _) rfl) gy) ?_
    rintro _ jW (⟨hee, rfl, g6⟩ | ⟨hee, cb, mm, M, rfl, hM, g6⟩)
    ·
     refine zAd (qn ⟨g6.tail.tail.tail, ?_⟩)
     refine d_w rfl (fun _ => zA3 rfl rfl) rfl (d_w rfl (fun _ => zAw rfl rfl rfl) rfl (d_w rfl (fun _ => zAk rfl rfl rfl) rfl ?_))
     refine zBr rfl ?_
     refine zBj 1 (.pointer _) [_] sizeOf84 g6 (fun jX gX => ?_)
     refine zAd (qn ?_)
     refine d_w rfl (fun _ => zA0 rfl rfl) rfl ?_
     refine zBm ?_
     refine zAc (g0 _ _ (mdI ?_))
     have gY := (show St _ _ (_ :: F) from gX.tail.tail.tail)
     exact ⟨_, .inl ⟨hee, rfl, gY⟩⟩
    replace g6 := (show St _ _ (M ++ (_ :: _ :: _ :: _ :: _ :: F)) from g6)
    refine zAd (qn ⟨g6.drop.tail.tail.tail.tail, ?_⟩)
    refine d_w rfl (fun _ => zA3 rfl rfl) rfl (d_w rfl (fun _ => zAw rfl rfl rfl) rfl (d_w rfl (fun _ => zAk rfl rfl rfl) rfl ?_))
    have gZ := (show St _ _ (_ :: _ :: _ :: _ :: _ :: (M ++ (F))) from St.pk [M, [_], [_], [_], [_], [_]] [1,2,3,4,5,0] g6)
    refine zBr rfl ?_
    refine zBj 2 (.pointer _) [_] sizeOf84 gZ (fun jY hD => ?_)
    refine zAd (qn ?_)
    refine d_w rfl (fun _ => zA0 rfl rfl) rfl ?_
    refine zBm ?_
    refine zAc (g0 _ _ (mdI ?_))
    have hN := (show St _ _ (_ :: _ :: _ :: (M ++ (F))) from St.pk [[_], [_], [_], [_], [_], M] [0,2,4,5] hD)
    exact ⟨_, .inr ⟨hee, cb, mm, M, rfl, hM, hN⟩⟩
   refine zA1 (cs := [_]) zAa zeroValue84 rfl g9 (fun jZ k4 gz => ?_)
   refine zAd (qn ⟨gz.tail, ?_⟩)
   refine zDs ?_
   refine zBh rfl ?_
   refine zAu (ps := [(0, _)]) (pv := [(0, .int _ _)]) (cs := [_]) zAa rfl rfl (fun w => zIo _ w) gz (fun k5 k6 gA => ?_)
   refine zAd (qn ⟨gA.tail.tail, ?_⟩)
   refine zBh rfl ?_
   refine zCo zAa call43 rfl rfl rfl rfl (c43 _ (by omega) _ _ [_] (by simp) (zBb (i := 0) (rows := [[_]]) rfl (by simp) rfl) gA) (fun k7 gB => ?_)
   refine zAd (qn ⟨gB.tail.tail, ?_⟩)
   refine zBh rfl ?_
   refine zAu (ps := [(0, _)]) (pv := [(0, .agg #[.bool _, .int _ _])]) (cs := [_,_]) zAa rfl rfl (fun w => zGt _ _ w) gB (fun k8 k9 gC => ?_)
   refine zAd (qn ⟨gC.tail.tail.tail, ?_⟩)
   refine zBh rfl ?_
   refine zA4 zAa call42 rfl rfl rfl rfl (c42 c _ hm.cons.cons.cons.cons _ _ [noneA c.holds.length [hold]] (by simp [spoilsL, putL, outL]) (fun x hx _ => by simp only [List.mem_cons, List.not_mem_nil, or_false] at hx; rcases hx with rfl <;> simp [noneA, hoursA]) (zBb (i := 0) (rows := (arows [noneA c.holds.length [hold]])) rfl (arow2 _) rfl) gC) ?_
   rintro _ ka (⟨hee, rfl, g7⟩ | ⟨hee, cb, mm, M, rfl, hM, g7⟩)
   ·
    refine zAd (qn ⟨g7.tail.tail.tail, ?_⟩)
    refine d_w rfl (fun _ => zA3 rfl rfl) rfl (d_w rfl (fun _ => zAw rfl rfl rfl) rfl (d_w rfl (fun _ => zAk rfl rfl rfl) rfl ?_))
    refine zBr rfl ?_
    refine zBj 2 (.pointer _) [_] sizeOf84 g7 (fun kb hP => ?_)
    refine zAd (qn ?_)
    refine d_w rfl (fun _ => zA0 rfl rfl) rfl ?_
    refine zBm ?_
    refine zAc (g0 _ _ (mdI ?_))
    have hX := (show St _ _ (_ :: F) from hP.tail.tail.tail)
    exact ⟨_, .inl ⟨hee, rfl, hX⟩⟩
   replace g7 := (show St _ _ (M ++ (_ :: _ :: _ :: _ :: _ :: F)) from g7)
   refine zAd (qn ⟨g7.drop.tail.tail.tail.tail, ?_⟩)
   refine d_w rfl (fun _ => zA3 rfl rfl) rfl (d_w rfl (fun _ => zAw rfl rfl rfl) rfl (d_w rfl (fun _ => zAk rfl rfl rfl) rfl ?_))
   have hY := (show St _ _ (_ :: _ :: _ :: _ :: _ :: (M ++ (F))) from St.pk [M, [_], [_], [_], [_], [_]] [1,2,3,4,5,0] g7)
   refine zBr rfl ?_
   refine zBj 3 (.pointer _) [_] sizeOf84 hY (fun kc j0 => ?_)
   refine zAd (qn ?_)
   refine d_w rfl (fun _ => zA0 rfl rfl) rfl ?_
   refine zBm ?_
   refine zAc (g0 _ _ (mdI ?_))
   have j1 := (show St _ _ (_ :: _ :: _ :: (M ++ (F))) from St.pk [[_], [_], [_], [_], [_], M] [0,3,4,5] j0)
   exact ⟨_, .inr ⟨hee, cb, mm, M, rfl, hM, j1⟩⟩
  intro vs μ kd hM
  clear hs
  obtain ⟨bc, hM⟩ := hM
  rcases hM with hM | hM
  ·
   obtain ⟨hee, rfl, hs⟩ := hM
   refine zAc (go _ _ (zAf (fun ke kf => (zAf (fun kg j3 => (zAb (zA6 rfl rfl (w_p (zCs rfl rfl rfl rfl) rfl (zAd (zAc (j3 _ _ (zAr rfl rfl (fun ga => ?_) (fun ga => ?_)))))))))))))
   ·
    try simp only [zS] at ga
    refine zAf (fun kh j4 => (zAb (zA6 rfl rfl (zBi rfl rfl (zBw rfl rfl (zAd (zAc (j4 _ _ (zA8 (zAl (zBa (l := [.tmp 4, .tmp 5]) (vs := [_,_]) rfl ⟨⟨rfl, show _ = (.slice _ _ _ : Value) from rfl⟩, ⟨rfl, (rfl : _ = Value.int _ _)⟩, trivial⟩ ?_)))))))))))
    exact ⟨[], none, 0, by rw [firstP_e hee]; rfl, by rw [firstP_e hee]; exact Sl.nil _ _, hs.tail⟩
   exfalso
   try simp only [zS] at ga
   exact hee ga
  obtain ⟨hee, cb, mm, M, rfl, hM, hs⟩ := hM
  have hew := zFp (fun x hx _ => by simp only [List.mem_cons, List.not_mem_nil, or_false] at hx; rcases hx with rfl <;> simp [noneA, hoursA]) hee
  have hok := zEe hew.1
  have hlo := hok.ll
  have hle2 := hok.le
  have hlh2 := hok.lh
  refine zAc (go _ _ (zAf (fun ki j5 => (zAf (fun kj j6 => (zAb (zA6 rfl rfl (w_p (zCs rfl rfl rfl rfl) rfl (zAd (zAc (j6 _ _ (zBs rfl rfl ?_))))))))))))
  refine zAn (zAc (j5 _ _ (zAf (fun km j7 => (zAf (fun kn j8 => ?_))))))
  obtain ⟨n, rfl⟩ : ∃ n : Nat, hold = (n : Int) := ⟨hold.toNat, by have := zFz (any_1 hew.2.1) hold (by simp); omega⟩
  have hnh : n < c.holds.length := by have := zFz (any_1 hew.2.1) (n : Int) (by simp); omega
  refine zAb (w_p (zAe (o := 3) (i := 3) underlying27 rfl sizeOf24 rfl rfl rfl) rfl (w_p (zAg isAgg24 hs rfl rfl (aow 2 [_])) rfl (w_p (zBc underlying24 rfl rfl) rfl (w_p (zBy (v := _) rfl rfl) rfl ?_))))
  refine zAd (zAc (j8 _ _ (zAq ?_)))
  refine zB6 [4,7,8,9,28,29,30,31,32,33,34,35,36,37,38,39,40,41,42,43,44,45,46,47,48,49,50] [4,28] (fun k vs w => ∃ (i : Nat) (v : Value) (B M : List (Nat × Obj)), vs = [v, .int .i64 i] ∧ i ≤ c.lots.length ∧ k = c.lots.length - i ∧ Rt.Own v 3 1 (firstTo c n i).length (iv (firstTo c n i)) B ∧ Memo c mm M ∧ St w0 w ((cb, blk 138 [.slice p.ae c.heat.length p.ce, .int .i64 c.gas, .slice p.ah c.holds.length p.ch, .slice p.al c.lots.length p.cl, .slice p.an c.seen.length p.cn, .int .i64 ((0 : Nat) : Int), .map (some mm)]) :: (bc, blk 84 [.pointer (some ⟨cb, 0, none⟩)]) :: (b3, blk 27 (c.cells p)) :: (B ++ (M ++ F)))) (c.lots.length) ?_ ?_
  ·
   exact ⟨0, _, [], M, rfl, by omega, by omega, zEm 3 1, hM, hs⟩
  intro k vs μ ko hI kp gf
  clear hs hM
  obtain ⟨i, v, B, M, rfl, hia, rfl, hown, hM, hs⟩ := hI
  refine zAf (fun kq j9 => (zAb (w_p (zCp rfl rfl rfl rfl) rfl (zAd (zAc (j9 _ _ (zAf (fun kr ja => (zAr rfl rfl (fun gg => ?_) (fun gg => ?_))))))))))
  ·
   try simp only [zS] at gg
   refine zAn (zAc (ja _ _ (zAf (fun ku gh => (zAq ?_)))))
   refine zAf (fun kw jb => ?_)
   have hi2 : i < c.lots.length := by omega
   obtain ⟨bx, ox, hbx, hx⟩ := sl_lrows hm.l hi2
   have hsl := first_len c n i
   refine zAb (zA6 rfl rfl (w_p (zA7 underlying24 sizeOf38 rfl rfl (Eq.trans (show _ = Value.slice p.al c.lots.length p.cl from rfl) (by rw [hbx])) rfl (b := bx) (off := ox) (i := i) rfl hi2) rfl ?_))
   refine w_p (zA2 (vs := [_,_,_,_]) isAgg38 sizeOf38 hs.tail.tail.tail.drop.drop rfl rfl hx) rfl (zA1 (cs := [_]) zAa zeroValue3 rfl hs (fun jc kx jd => ?_))
   refine zA1 (cs := [_,_,_,_]) zAa zeroValue38 rfl jd (fun ky kz je => ?_)
   refine zBj 1 (.int _ _) [_] sizeOf3 je (fun kA jf => ?_)
   refine zBj 0 (.agg #[.int _ _, .int _ _, .int _ _, .int _ _]) [_,_,_,_] sizeOf38 jf (fun kB jg => ?_)
   refine zAd (zAc (jb _ _ (zAf (fun kC jh => (zAb (w_p (zCc (fv := []) (cv := [_,_]) rfl rfl rfl rfl) rfl (w_p (zB1 (ps := [(0, _)]) (pv := [(0, .func _ _ _)]) rfl rfl (fun w => Try_UK_fb3 _ _ _ w)) rfl ?_)))))))
   refine zA1 (cs := [_]) zAa zeroValue98 rfl jg (fun kD kE ji => ?_)
   refine zBj 0 (.agg #[.func _ _ _]) [_] sizeOf98 ji (fun kF g8 => ?_)
   refine zAd (zAc (jh _ _ (zAf (fun kG gD => (zAb (w_p (zAe (o := 0) (i := 0) underlying38 rfl sizeOf3 rfl rfl rfl) rfl (w_p (zAg isAgg3 g8 rfl rfl (aow 1 [_])) rfl ?_)))))))
   refine zA6 rfl rfl (w_p (zCa rfl rfl rfl rfl) rfl (w_p (zAt rfl rfl) rfl (zB5 (fun gi => ?_) (fun gi => ?_))))
   ·
    try simp only [zS] at gi
    refine w_y rfl rfl rfl (zAg isAgg84 g8 rfl rfl (aow 4 [_])) rfl ?_
    refine w_y rfl rfl rfl (zAy rfl rfl) rfl ?_
    refine w_y rfl rfl rfl (zA2 (vs := [_]) isAgg98 sizeOf98 g8 rfl rfl (aow 0 [_])) rfl ?_
    have jj := (show St _ _ ((B ++ ((M ++ (_ :: _ :: _ :: _ :: _ :: _ :: F))))) from St.pk [[_], [_], [_], [_], [_], [_], B, M] [6,7,0,1,2,3,4,5] g8)
    refine zA4 (zAh rfl rfl rfl) call44 rfl rfl rfl rfl ((by have h := c44 (X := B) (B := []) (M := M) (F := _ :: _ :: _ :: (cb, blk 138 [.slice p.ae c.heat.length p.ce, .int .i64 c.gas, .slice p.ah c.holds.length p.ch, .slice p.al c.lots.length p.cl, .slice p.an c.seen.length p.cn, .int .i64 ((0 : Nat) : Int), .map (some mm)]) :: _ :: _ :: F) c p cb mm ⟨hm.cons.cons.cons.cons.cons.cons, zB9 (i := 3) rfl rfl, hok.t, by omega⟩ hok n hnh 50 #[] #[.pointer (some ⟨jc,0, none⟩), .pointer (some ⟨bc, 0, none⟩)] (firstQ c i) (fun i B => B = []) (first_qis c p cb mm ⟨hm.cons.cons.cons.cons.cons.cons, zB9 (i := 3) rfl rfl, hok.t, by omega⟩ hok n hnh i (by omega) _ _ (aow 2 [_]) (aow 4 [_])) rfl hM jj; exact h)) ?_
    rintro _ kH ⟨rfl, B1, M159, hJ1, gE, gj⟩
    subst hJ1
    replace gj := (show St _ _ (B ++ (M159 ++ (_ :: _ :: _ :: _ :: _ :: _ :: F))) from gj)
    have gk := (show St _ _ (_ :: _ :: _ :: _ :: _ :: _ :: (B ++ ((M159 ++ (F))))) from St.pk [B, M159, [_], [_], [_], [_], [_], [_]] [2,3,4,5,6,7,0,1] gj)
    refine w_y rfl rfl rfl (zCs rfl rfl rfl rfl) rfl ?_
    refine w_p (zA5 (v := .bool _) rfl rfl rfl rfl) rfl (zAd (zAc (gD _ _ (zAr rfl rfl (fun gm => ?_) (fun gm => ?_)))))
    ·
     try simp only [zS] at gm
     refine zAb (w_p (zBy (v := v) rfl rfl) rfl (w_p (zAg isAgg3 gk rfl rfl (aow 2 [_])) rfl ?_))
     refine zAu (ps := [(0, _)]) (pv := [(0, .int _ _)]) (cs := [_]) zAa rfl rfl (fun w => zIo _ w) gk (fun kI kJ jk => ?_)
     refine zC7 (X := (_ :: _ :: _ :: _ :: _ :: _ :: _ :: [])) (B := B) (rows := [[_]]) (sz := 1) (bytes := 8) zAa underlying22 zC3 rfl rfl rfl rfl rfl rfl rfl rfl rfl jk hown (zBb (i := 0) rfl (by simp) rfl) rfl (by simp) (by simp [Value.oneCell']) (by simp only [maxLen]; omega) (by omega) (fun jl kK gF jm gn => ?_)
     replace gn := (show St _ _ (_ :: _ :: _ :: _ :: _ :: _ :: _ :: gF ++ (M159 ++ (F))) from gn)
     refine w_p (zCu (v := jl) rfl rfl) rfl (zAd (zAi (zAc (gh _ _ (zAb (w_p (zBo rfl rfl rfl rfl (by omega) (by omega)) rfl (zA6 rfl rfl (zAd (zAc (gf _ _ (nxI (c.lots.length - (i + 1)) (by omega) ?_)))))))))))
     have jo := (show St _ _ (_ :: _ :: _ :: (gF ++ ((M159 ++ (F))))) from gn.tail.tail.tail.tail)
     exact ⟨i + 1, _,_, M159, rfl, by omega, rfl, by rw [firstT_yes hi2 (by assumption) (by assumption)]; exact zFi jm, gE, jo⟩
    try simp only [zS] at gm
    refine zAn (zAi (zAc (gh _ _ (zAb (w_p (zBo rfl rfl rfl rfl (by omega) (by omega)) rfl (zA6 rfl rfl (zAd (zAc (gf _ _ (nxI (c.lots.length - (i + 1)) (by omega) ?_))))))))))
    have jp := (show St _ _ (_ :: _ :: _ :: (B ++ ((M159 ++ (F))))) from gk.tail.tail.tail)
    exact ⟨i + 1, v, B, M159, rfl, by omega, rfl, by rw [firstT_no hi2 (by first | exact .inl (by assumption) | exact .inr (by assumption))]; exact hown, gE, jp⟩
   try simp only [zS] at gi
   refine zAm rfl rfl rfl ?_
   refine zAm rfl rfl rfl ?_
   refine zAm rfl rfl rfl ?_
   refine zAm rfl rfl rfl ?_
   refine zAm rfl rfl rfl ?_
   refine w_p (zBg (v := _) rfl rfl rfl rfl) rfl (zAd (zAc (gD _ _ (zBs rfl rfl ?_))))
   refine zAn (zAi (zAc (gh _ _ (zAb (w_p (zBo rfl rfl rfl rfl (by omega) (by omega)) rfl (zA6 rfl rfl (zAd (zAc (gf _ _ (nxI (c.lots.length - (i + 1)) (by omega) ?_))))))))))
   have jq := (show St _ _ (_ :: _ :: _ :: (B ++ ((M ++ (F))))) from g8.tail.tail.tail)
   exact ⟨i + 1, v, B, M, rfl, by omega, rfl, by rw [firstT_no hi2 (by first | exact .inl (by assumption) | exact .inr (by assumption))]; exact hown, hM, jq⟩
  try simp only [zS] at gg
  refine zBt (zAj (zAj (zAv (zAc (j7 _ _ (zAf (fun kL jr => (zAb (w_p (zBy (v := v) rfl rfl) rfl (w_p (zCu (v := v) rfl rfl) rfl ?_))))))))))
  refine zBi rfl rfl (zAd (zAc (jr _ _ (zA8 (zBa (l := [.tmp 4, .tmp 5]) (vs := [_,_]) rfl ⟨⟨rfl, show _ = (v : Value) from rfl⟩, ⟨rfl, (rfl : _ = Value.int _ _)⟩, trivial⟩ ?_)))))
  have hin : i = c.lots.length := by omega
  subst hin
  obtain ⟨a9, c9, rfl, hsl9, _⟩ := zFj (w0 := w0) hown
  exact ⟨B, a9, c9, by rw [firstP_y hee]; rfl, by rw [firstP_y hee]; exact hsl9, kq_opq hs.tail.tail.tail⟩

theorem zG2 {s : List Int} (h : SOk s) (m : Nat) : SOk (without s m) := by
  have h1 := h.tt
  have h2 := bitDiff_le (tt s) m (by omega)
  exact sok_set7 h (by omega)
theorem c52 {w0 w : World} {X M F : List (Nat × Obj)} (c : Cargo) (p : AtT) (cb mm : Nat) (hk : CK w0 F c p 0 cb mm) (a b : Nat) (ha4 : a < 5) (hb4 : b < 5) (b4 b8 b5 : Nat) (h4 : Ats w0 F b4 0 [.int .i64 (a : Int)]) (h8 : Ats w0 F b8 0 [.pointer (some ⟨cb, 0, none⟩)]) (h5 : Ats w0 F b5 0 [.int .i64 (b : Int)]) (s : List Int) (hso : SOk s) (hM : Memo c mm M) (hs : St w0 w (X ++ (M ++ F))) :
  Con Tryz.prog 52 [ia s, ia (times c s), .pointer (some ⟨b4,0, none⟩), .pointer (some ⟨b8,0, none⟩), .pointer (some ⟨b5,0, none⟩)] w fun v w' => v = .bool (spoilsQ c a b s) ∧ ∃ M', Memo c mm M' ∧ St w0 w' (X ++ (M' ++ F)) := by
  refine zAo (n := 23) func52 rfl rfl (zNl rfl) ?_
  have hls := hso.len
  have htl := zBf c s
  have htt := hso.tt
  have hsh := shl5 ha4
  have hwl := (zG2 hso (1 <<< a)).len
  have htw := zBf c (without s (1 <<< a))
  refine zAf (fun K2 g6 => (zAb (zEi (l := _) zAa rfl rfl rfl hs (fun b3 w4 g7 => ?_))))
  refine zEi (l := _) zAa rfl rfl rfl g7 (fun b6 w7 g8 => ?_)
  refine zBi rfl rfl (zAd (zAc (g6 _ _ (zAf (fun gd g9 => (zCq [6] [(0,0),(1,1),(2,1),(3,0),(4,0),(5,0),(6,3)] zB4 (zBk (by kernel_rfl)) g8 (fun ge g4 => ?_)))))))
  refine d_w rfl (fun _ => zAe (o := 7) (i := 3) underlying94 rfl sizeOf3 rfl rfl rfl) rfl ?_
  refine zAz rfl zAa rfl g4 (fun _ hq => (zAg isAgg3 hq rfl rfl (zEr (i := 1) (o := 7) rfl (by first | omega | rfl | (simp only [hls, zBf, zL] <;> omega))))) ?_
  refine zAz rfl zAa rfl g4 (fun _ hq => (zAg isAgg3 hq.tail.tail.drop.drop rfl rfl h4)) ?_
  refine d_w rfl (fun _ => y_shl (x := 1) (y := a) rfl rfl rfl rfl rfl (by first | rfl | omega) (by first | omega | exact zCr (by omega)) (by first | omega | exact zCr (by omega))) rfl ?_
  refine d_w rfl (fun _ => zI0 (x := tt s) (y := 1 <<< a) rfl rfl rfl rfl (by first | rfl | omega) (by first | rfl | omega) (by first | omega | exact zCr (by omega))) rfl ?_
  refine d_w rfl (fun _ => zAe (o := 7) (i := 3) underlying94 rfl sizeOf3 rfl rfl rfl) rfl ?_
  refine zBr rfl ?_
  refine zE8 (i := 1) (o := 7) zAa sizeOf3 rfl rfl rfl rfl g4 rfl (by first | omega | rfl | (simp only [hls, zBf, zL] <;> omega)) (fun gf ga => ?_)
  refine zAd (qn ?_)
  refine zBm ?_
  refine zAc (g9 _ _ (zAf (fun gg gc => (zG1 (C := fun w => ∃ M, Memo c mm M ∧ St w0 w ((b6, blk 92 (iv (times c s))) :: (b3, blk 94 (iv (without s (1 <<< a)))) :: (X ++ (M ++ F)))) [] [(0,1),(1,1),(3,1),(5,1),(6,0),(7,1),(2,2),(4,0),(8,0),(9,0)] zB4 (zBk (by kernel_rfl)) ⟨_, hM, ga⟩ (fun _ ⟨M, h1, h2⟩ => ⟨M, h1, h2.drew⟩) (fun gh ⟨M, hM, g0⟩ => ?_)))))
  refine zCe rfl zAa rfl ⟨_, hM, g0⟩ (fun _ ⟨M, hM, hq⟩ => (zAg isAgg84 hq.tail.tail.drop.drop rfl rfl h8)) ?_
  refine zCe rfl zAa rfl ⟨_, hM, g0⟩ (fun _ ⟨M, hM, hq⟩ => (zCt (i := 1) isAgg94 sizeOf94 (by first | omega | rfl | (simp only [hls, zBf, zL] <;> omega)) hq rfl rfl rfl)) ?_
  refine zCe rfl zAa rfl ⟨_, hM, g0⟩ (fun _ ⟨M, hM, hq⟩ => (zAg isAgg3 hq.tail.tail.drop.drop rfl rfl h5)) ?_
  refine zCe rfl zAa rfl ⟨_, hM, g0⟩ (fun _ ⟨M, hM, hq⟩ => (zAg isAgg3 hq.tail.tail.drop.drop rfl rfl h5)) ?_
  refine d_w rfl (fun _ => zCw underlying92 sizeOf3 rfl rfl rfl rfl (i := b) (by first | rfl | omega) (by omega)) rfl ?_
  refine zCe rfl zAa rfl ⟨_, hM, g0⟩ (fun _ ⟨M, hM, hq⟩ => (zAg isAgg3 hq rfl rfl (zC9 (i := 0) (j := b) rfl (by first | omega | rfl | (simp only [hls, zBf, zL] <;> omega))))) ?_
  refine zBh rfl ?_
  refine zA4 zAa call53 rfl rfl rfl rfl (zF5 (X := _ :: _ :: X) (M := M) c p 0 cb mm hk _ (zG2 hso (1 <<< a)) hM g0) ?_
  rintro _ gi ⟨M2, rfl, g5, g3⟩
  replace g3 := (show St _ _ (_ :: _ :: X ++ (M2 ++ (F))) from g3)
  refine zAd (qn ⟨⟨_, g5, g3⟩, ?_⟩)
  refine d_w rfl (fun _ => y_indexV (i := b) underlying92 underlying3 sizeOf3 rfl rfl rfl rfl rfl rfl (by omega) (by first | omega | rfl | (simp only [hls, zBf, zL] <;> omega))) rfl ?_
  refine d_w rfl (fun _ => zEf rfl rfl rfl rfl) rfl (d_w rfl (fun _ => zAs rfl rfl) rfl ?_)
  refine zBm ?_
  refine zAc (gc _ _ (zA8 (zBa (l := [.tmp 7]) (vs := [_]) rfl ⟨⟨rfl, (rfl : _ = Value.bool _)⟩, trivial⟩ ?_)))
  exact ⟨rfl, M2, g5, g3.tail.tail⟩

theorem spoils_qis {w0 : World} {F : List (Nat × Obj)} (c : Cargo) (p : AtT) (cb mm : Nat) (hk : CK w0 F c p 0 cb mm) (hco : c.Ok) (hold : Nat) (hh : hold < c.holds.length) (a b : Nat) (ha4 : a < 5) (hb4 : b < 5) (b4 b8 b5 : Nat) (h4 : Ats w0 F b4 0 [.int .i64 (a : Int)]) (h8 : Ats w0 F b8 0 [.pointer (some ⟨cb, 0, none⟩)]) (h5 : Ats w0 F b5 0 [.int .i64 (b : Int)]) : QIs w0 F c mm hold (.func (.func 52) #[] #[.pointer (some ⟨b4,0, none⟩), .pointer (some ⟨b8,0, none⟩), .pointer (some ⟨b5,0, none⟩)]) (spoilsQ c a b) (fun i B => B = []) := by
  intro i hi B M X w hB hM hs
  subst hB
  refine (zDm call52 (c52 (X := X) (M := M) (F := F) c p cb mm hk a b ha4 hb4 b4 b8 b5 h4 h8 h5 _ (zEg hco hh (List.getElem_mem hi)).1 hM hs)).mono ?_
  rintro v w' ⟨rfl, M', hM', g0⟩
  exact ⟨rfl, [], M', rfl, hM', g0⟩
theorem c22 {w0 w : World} {F : List (Nat × Obj)} (c : Cargo) (p : AtT) (hm : TIn w0 F c p) (a b : Int) (hs : St w0 w F) :
  Con Tryz.prog 22 [.agg (c.cells p).toArray, .int .i64 a, .int .i64 b] w fun v w' => v = .tuple #[.int .i64 (spoilsP c a b).1, .int .i64 (spoilsP c a b).2] ∧ St w0 w' F := by
  refine zAo (n := 40) func22 rfl rfl (zNl rfl) ?_
  have hll0 := hm.ll
  refine zAf (fun K2 gx => (zAb (zCj (v := .agg #[.slice _ _ _, .int _ _, .slice _ _ _, .slice _ _ _, .slice _ _ _]) (cs := [_,_,_,_,_]) zAa rfl rfl rfl hs (fun b3 w4 gy => ?_))))
  refine zCj (v := .int _ _) (cs := [_]) zAa rfl rfl rfl gy (fun b6 w7 gz => ?_)
  refine zCj (v := .int _ _) (cs := [_]) zAa rfl rfl rfl gz (fun b9 j3 gA => ?_)
  refine zBi rfl rfl (zBi rfl rfl (zAd (zAc (gx _ _ (zAf (fun j4 gg => (w_cut [8,9,10,11,12,13,14,15,16,17,18,19,20,21,22,23,24,25,26] [9,8] (fun vs w => ∃ bc, (¬ enterE c (spoilsL c a b) = 0 ∧ vs = [.int .i64 (enterE c (spoilsL c a b)), .pointer (some ⟨bc, 0, none⟩)] ∧ St w0 w ((b9, blk 3 [.int .i64 b]) :: (b6, blk 3 [.int .i64 a]) :: (b3, blk 27 (c.cells p)) :: F)) ∨ (enterE c (spoilsL c a b) = 0 ∧ ∃ cb mm M, vs = [.int .i64 0, .pointer (some ⟨bc, 0, none⟩)] ∧ Memo c mm M ∧ St w0 w ((cb, blk 138 [.slice p.ae c.heat.length p.ce, .int .i64 c.gas, .slice p.ah c.holds.length p.ch, .slice p.al c.lots.length p.cl, .slice p.an c.seen.length p.cn, .int .i64 ((0 : Nat) : Int), .map (some mm)]) :: (bc, blk 84 [.pointer (some ⟨cb, 0, none⟩)]) :: (b9, blk 3 [.int .i64 b]) :: (b6, blk 3 [.int .i64 a]) :: (b3, blk 27 (c.cells p)) :: (M ++ F)))) (fun j5 g0 => ?_) ?_)))))))
  ·
   refine w_drawT (C := fun w => St w0 w _) [18] (.two [(0,1),(1,0),(2,1),(3,0),(4,1),(5,1),(8,1),(9,1),(10,0),(11,0)] 6 17 (.two [] 7 17 (.two [] 12 17 (.two [] 13 17 (.done [(14,0),(15,0),(16,0),(17,2),(18,3),(19,0)]) (.done [(13,2),(14,0),(15,0),(16,0),(18,3),(19,0)])) (.done [(12,2),(13,2),(14,0),(15,0),(16,0),(18,3),(19,0)])) (.done [(7,2),(12,2),(13,2),(14,0),(15,0),(16,0),(18,3),(19,0)])) (.done [(6,2),(7,2),(12,2),(13,2),(14,0),(15,0),(16,0),(18,3),(19,0)])) zB4 (by kernel_rfl) gA (fun _ h => h.drew) (fun j6 g3 => ?_)
   refine zFq ?_
   refine zAz rfl zAa rfl g3 (fun _ hq => (zA2 (vs := [_,_,_,_,_]) isAgg27 sizeOf27 hq rfl rfl (aow 2 [_,_,_,_,_]))) ?_
   refine d_w rfl (fun _ => zAe (o := 3) (i := 3) underlying27 rfl sizeOf24 rfl rfl rfl) rfl ?_
   refine zAz rfl zAa rfl g3 (fun _ hq => (zAg isAgg24 hq rfl rfl (aow 2 [_]))) ?_
   refine d_w rfl (fun _ => zBc underlying24 rfl rfl) rfl ?_
   refine zAz rfl zAa rfl g3 (fun _ hq => (zAg isAgg3 hq rfl rfl (aow 1 [_]))) ?_
   refine zAz rfl zAa rfl g3 (fun _ hq => (zAg isAgg3 hq rfl rfl (aow 0 [_]))) ?_
   refine zAz rfl zAa rfl g3 (fun _ hq => (zAg isAgg3 hq rfl rfl (aow 1 [_]))) ?_
   refine zAz rfl zAa rfl g3 (fun _ hq => (zAg isAgg3 hq rfl rfl (aow 0 [_]))) ?_
   refine d_w rfl (fun _ => zCa rfl rfl rfl rfl) rfl (d_w rfl (fun _ => zB1 (ps := [(0, _),(1, _)]) (pv := [(0, .bool _),(1, .int _ _)]) rfl rfl (fun w => Try_UK_fb4 _ _ w)) rfl ?_)
   refine zIk rfl rfl ?_ ?_
   ·
    refine zAu (ps := [(0, _),(1, _)]) (pv := [(0, .int _ _),(1, .int _ _)]) (cs := [_,_]) zAa rfl rfl (fun w => Try_UK_fb5 _ _ w) g3 (fun j7 j8 gc => ?_)
    refine zAd (qn ⟨gc.tail, ?_⟩)
    refine zFq ?_
    refine zIk rfl rfl ?_ ?_
    ·
     refine zCo zAa call43 rfl rfl rfl rfl (c43 _ (by omega) _ _ [_,_] (by simp) (zBb (i := 0) (rows := [[_], [_]]) rfl (by simp) rfl) gc) (fun j9 gd => ?_)
     refine zAd (qn ⟨gd.tail, ?_⟩)
     refine zFq ?_
     refine zIk rfl rfl ?_ ?_
     ·
      refine zAu (ps := [(0, _),(1, _)]) (pv := [(0, .agg #[.bool _, .int _ _]),(1, .agg #[.bool _, .int _ _])]) (cs := [_,_,_,_]) zAa rfl rfl (fun w => zGs _ _ _ _ w) gd (fun ja jb ge => ?_)
      refine zAd (qn ⟨ge.tail.tail, ?_⟩)
      refine zFq ?_
      refine zIk rfl rfl ?_ ?_
      ·
       refine zA4 zAa call42 rfl rfl rfl rfl (c42 c _ hm.cons.cons.cons.cons.cons _ _ (spoilsL c a b) (by simp [spoilsL, putL, outL]) (fun x hx _ => by simp only [spoilsL, List.mem_cons, List.not_mem_nil, or_false] at hx; rcases hx with rfl | rfl <;> simp [noneA]) (zBb (i := 0) (rows := (arows (spoilsL c a b))) rfl (arow2 _) rfl) ge) ?_
       rintro _ jc (⟨hee, rfl, g4⟩ | ⟨hee, cb, mm, M, rfl, hM, g4⟩)
       ·
        refine zAd (qn ⟨g4.tail.tail, ?_⟩)
        refine zDs ?_
        refine d_w rfl (fun _ => zA3 rfl rfl) rfl (d_w rfl (fun _ => zAw rfl rfl rfl) rfl (d_w rfl (fun _ => zAk rfl rfl rfl) rfl ?_))
        refine zBh rfl ?_
        refine zA1 (cs := [_]) zAa zeroValue84 rfl g4 (fun jd je gh => ?_)
        refine zAd (qn ⟨gh.tail.tail.tail, ?_⟩)
        refine zBr rfl ?_
        refine zBj 0 (.pointer _) [_] sizeOf84 gh (fun jf gB => ?_)
        refine zAd (qn ?_)
        refine d_w rfl (fun _ => zA0 rfl rfl) rfl ?_
        refine zBm ?_
        refine zAc (g0 _ _ (mdI ?_))
        have gC := (show St _ _ (_ :: _ :: _ :: F) from gB.tail.tail.tail)
        exact ⟨_, .inl ⟨hee, rfl, gC⟩⟩
       replace g4 := (show St _ _ (M ++ (_ :: _ :: _ :: _ :: _ :: _ :: F)) from g4)
       refine zAd (qn ⟨g4.drop.tail.tail.tail, ?_⟩)
       refine zDs ?_
       refine d_w rfl (fun _ => zA3 rfl rfl) rfl (d_w rfl (fun _ => zAw rfl rfl rfl) rfl (d_w rfl (fun _ => zAk rfl rfl rfl) rfl ?_))
       refine zBh rfl ?_
       refine zA1 (cs := [_]) zAa zeroValue84 rfl g4 (fun jg jh gi => ?_)
       refine zAd (qn ⟨gi.tail.drop.tail.tail.tail, ?_⟩)
       have gD := (show St _ _ (_ :: _ :: _ :: _ :: _ :: _ :: _ :: (M ++ (F))) from St.pk [[_], M, [_], [_], [_], [_], [_], [_]] [0,2,3,4,5,6,7,1] gi)
       refine zBr rfl ?_
       refine zBj 0 (.pointer _) [_] sizeOf84 gD (fun ji gE => ?_)
       refine zAd (qn ?_)
       refine d_w rfl (fun _ => zA0 rfl rfl) rfl ?_
       refine zBm ?_
       refine zAc (g0 _ _ (mdI ?_))
       have gF := (show St _ _ (_ :: _ :: _ :: _ :: _ :: (M ++ (F))) from St.pk [[_], [_], [_], [_], [_], [_], [_], M] [1,0,4,5,6,7] gE)
       exact ⟨_, .inr ⟨hee, cb, mm, M, rfl, hM, gF⟩⟩
      refine zA1 (cs := [_]) zAa zeroValue84 rfl ge (fun jj jk gj => ?_)
      refine zAd (qn ⟨gj.tail.tail.tail, ?_⟩)
      refine zDs ?_
      refine zBh rfl ?_
      refine zA4 zAa call42 rfl rfl rfl rfl (c42 c _ hm.cons.cons.cons.cons.cons.cons _ _ (spoilsL c a b) (by simp [spoilsL, putL, outL]) (fun x hx _ => by simp only [spoilsL, List.mem_cons, List.not_mem_nil, or_false] at hx; rcases hx with rfl | rfl <;> simp [noneA]) (zBb (i := 1) (rows := (arows (spoilsL c a b))) rfl (arow2 _) rfl) gj) ?_
      rintro _ jl (⟨hee, rfl, g5⟩ | ⟨hee, cb, mm, M, rfl, hM, g5⟩)
      ·
       refine zAd (qn ⟨g5.tail.tail.tail, ?_⟩)
       refine d_w rfl (fun _ => zA3 rfl rfl) rfl (d_w rfl (fun _ => zAw rfl rfl rfl) rfl (d_w rfl (fun _ => zAk rfl rfl rfl) rfl ?_))
       refine zBr rfl ?_
       refine zBj 0 (.pointer _) [_] sizeOf84 g5 (fun jm gG => ?_)
       refine zAd (qn ?_)
       refine d_w rfl (fun _ => zA0 rfl rfl) rfl ?_
       refine zBm ?_
       refine zAc (g0 _ _ (mdI ?_))
       have gH := (show St _ _ (_ :: _ :: _ :: F) from gG.tail.tail.tail)
       exact ⟨_, .inl ⟨hee, rfl, gH⟩⟩
      replace g5 := (show St _ _ (M ++ (_ :: _ :: _ :: _ :: _ :: _ :: _ :: F)) from g5)
      refine zAd (qn ⟨g5.drop.tail.tail.tail.tail, ?_⟩)
      refine d_w rfl (fun _ => zA3 rfl rfl) rfl (d_w rfl (fun _ => zAw rfl rfl rfl) rfl (d_w rfl (fun _ => zAk rfl rfl rfl) rfl ?_))
      have gI := (show St _ _ (_ :: _ :: _ :: _ :: _ :: _ :: _ :: (M ++ (F))) from St.pk [M, [_], [_], [_], [_], [_], [_], [_]] [1,2,3,4,5,6,7,0] g5)
      refine zBr rfl ?_
      refine zBj 1 (.pointer _) [_] sizeOf84 gI (fun jo gJ => ?_)
      refine zAd (qn ?_)
      refine d_w rfl (fun _ => zA0 rfl rfl) rfl ?_
      refine zBm ?_
      refine zAc (g0 _ _ (mdI ?_))
      have gK := (show St _ _ (_ :: _ :: _ :: _ :: _ :: (M ++ (F))) from St.pk [[_], [_], [_], [_], [_], [_], [_], M] [0,1,4,5,6,7] gJ)
      exact ⟨_, .inr ⟨hee, cb, mm, M, rfl, hM, gK⟩⟩
     refine zA1 (cs := [_]) zAa zeroValue84 rfl gd (fun jp jq gk => ?_)
     refine zAd (qn ⟨gk.tail.tail, ?_⟩)
     refine zDs ?_
     refine zBh rfl ?_
     refine zAu (ps := [(0, _),(1, _)]) (pv := [(0, .agg #[.bool _, .int _ _]),(1, .agg #[.bool _, .int _ _])]) (cs := [_,_,_,_]) zAa rfl rfl (fun w => zGs _ _ _ _ w) gk (fun jr js gm => ?_)
     refine zAd (qn ⟨gm.tail.tail.tail, ?_⟩)
     refine zBh rfl ?_
     refine zA4 zAa call42 rfl rfl rfl rfl (c42 c _ hm.cons.cons.cons.cons.cons.cons _ _ (spoilsL c a b) (by simp [spoilsL, putL, outL]) (fun x hx _ => by simp only [spoilsL, List.mem_cons, List.not_mem_nil, or_false] at hx; rcases hx with rfl | rfl <;> simp [noneA]) (zBb (i := 0) (rows := (arows (spoilsL c a b))) rfl (arow2 _) rfl) gm) ?_
     rintro _ jt (⟨hee, rfl, g6⟩ | ⟨hee, cb, mm, M, rfl, hM, g6⟩)
     ·
      refine zAd (qn ⟨g6.tail.tail.tail, ?_⟩)
      refine d_w rfl (fun _ => zA3 rfl rfl) rfl (d_w rfl (fun _ => zAw rfl rfl rfl) rfl (d_w rfl (fun _ => zAk rfl rfl rfl) rfl ?_))
      refine zBr rfl ?_
      refine zBj 1 (.pointer _) [_] sizeOf84 g6 (fun ju gL => ?_)
      refine zAd (qn ?_)
      refine d_w rfl (fun _ => zA0 rfl rfl) rfl ?_
      refine zBm ?_
      refine zAc (g0 _ _ (mdI ?_))
      have gM := (show St _ _ (_ :: _ :: _ :: F) from gL.tail.tail.tail)
      exact ⟨_, .inl ⟨hee, rfl, gM⟩⟩
     replace g6 := (show St _ _ (M ++ (_ :: _ :: _ :: _ :: _ :: _ :: _ :: F)) from g6)
     refine zAd (qn ⟨g6.drop.tail.tail.tail.tail, ?_⟩)
     refine d_w rfl (fun _ => zA3 rfl rfl) rfl (d_w rfl (fun _ => zAw rfl rfl rfl) rfl (d_w rfl (fun _ => zAk rfl rfl rfl) rfl ?_))
     have gN := (show St _ _ (_ :: _ :: _ :: _ :: _ :: _ :: _ :: (M ++ (F))) from St.pk [M, [_], [_], [_], [_], [_], [_], [_]] [1,2,3,4,5,6,7,0] g6)
     refine zBr rfl ?_
     refine zBj 2 (.pointer _) [_] sizeOf84 gN (fun jv gO => ?_)
     refine zAd (qn ?_)
     refine d_w rfl (fun _ => zA0 rfl rfl) rfl ?_
     refine zBm ?_
     refine zAc (g0 _ _ (mdI ?_))
     have gP := (show St _ _ (_ :: _ :: _ :: _ :: _ :: (M ++ (F))) from St.pk [[_], [_], [_], [_], [_], [_], [_], M] [0,2,4,5,6,7] gO)
     exact ⟨_, .inr ⟨hee, cb, mm, M, rfl, hM, gP⟩⟩
    refine zA1 (cs := [_]) zAa zeroValue84 rfl gc (fun jw jx gn => ?_)
    refine zAd (qn ⟨gn.tail.tail, ?_⟩)
    refine zDs ?_
    refine zBh rfl ?_
    refine zCo zAa call43 rfl rfl rfl rfl (c43 _ (by omega) _ _ [_,_] (by simp) (zBb (i := 1) (rows := [[_], [_]]) rfl (by simp) rfl) gn) (fun jy go => ?_)
    refine zAd (qn ⟨go.tail.tail, ?_⟩)
    refine zBh rfl ?_
    refine zAu (ps := [(0, _),(1, _)]) (pv := [(0, .agg #[.bool _, .int _ _]),(1, .agg #[.bool _, .int _ _])]) (cs := [_,_,_,_]) zAa rfl rfl (fun w => zGs _ _ _ _ w) go (fun jz jA gp => ?_)
    refine zAd (qn ⟨gp.tail.tail.tail, ?_⟩)
    refine zBh rfl ?_
    refine zA4 zAa call42 rfl rfl rfl rfl (c42 c _ hm.cons.cons.cons.cons.cons.cons _ _ (spoilsL c a b) (by simp [spoilsL, putL, outL]) (fun x hx _ => by simp only [spoilsL, List.mem_cons, List.not_mem_nil, or_false] at hx; rcases hx with rfl | rfl <;> simp [noneA]) (zBb (i := 0) (rows := (arows (spoilsL c a b))) rfl (arow2 _) rfl) gp) ?_
    rintro _ jB (⟨hee, rfl, g7⟩ | ⟨hee, cb, mm, M, rfl, hM, g7⟩)
    ·
     refine zAd (qn ⟨g7.tail.tail.tail, ?_⟩)
     refine d_w rfl (fun _ => zA3 rfl rfl) rfl (d_w rfl (fun _ => zAw rfl rfl rfl) rfl (d_w rfl (fun _ => zAk rfl rfl rfl) rfl ?_))
     refine zBr rfl ?_
     refine zBj 1 (.pointer _) [_] sizeOf84 g7 (fun jC gQ => ?_)
     refine zAd (qn ?_)
     refine d_w rfl (fun _ => zA0 rfl rfl) rfl ?_
     refine zBm ?_
     refine zAc (g0 _ _ (mdI ?_))
     have gR := (show St _ _ (_ :: _ :: _ :: F) from gQ.tail.tail.tail)
     exact ⟨_, .inl ⟨hee, rfl, gR⟩⟩
    replace g7 := (show St _ _ (M ++ (_ :: _ :: _ :: _ :: _ :: _ :: _ :: F)) from g7)
    refine zAd (qn ⟨g7.drop.tail.tail.tail.tail, ?_⟩)
    refine d_w rfl (fun _ => zA3 rfl rfl) rfl (d_w rfl (fun _ => zAw rfl rfl rfl) rfl (d_w rfl (fun _ => zAk rfl rfl rfl) rfl ?_))
    have gS := (show St _ _ (_ :: _ :: _ :: _ :: _ :: _ :: _ :: (M ++ (F))) from St.pk [M, [_], [_], [_], [_], [_], [_], [_]] [1,2,3,4,5,6,7,0] g7)
    refine zBr rfl ?_
    refine zBj 2 (.pointer _) [_] sizeOf84 gS (fun jD gT => ?_)
    refine zAd (qn ?_)
    refine d_w rfl (fun _ => zA0 rfl rfl) rfl ?_
    refine zBm ?_
    refine zAc (g0 _ _ (mdI ?_))
    have gU := (show St _ _ (_ :: _ :: _ :: _ :: _ :: (M ++ (F))) from St.pk [[_], [_], [_], [_], [_], [_], [_], M] [0,2,4,5,6,7] gT)
    exact ⟨_, .inr ⟨hee, cb, mm, M, rfl, hM, gU⟩⟩
   refine zA1 (cs := [_]) zAa zeroValue84 rfl g3 (fun jE jF gq => ?_)
   refine zAd (qn ⟨gq.tail, ?_⟩)
   refine zDs ?_
   refine zBh rfl ?_
   refine zAu (ps := [(0, _),(1, _)]) (pv := [(0, .int _ _),(1, .int _ _)]) (cs := [_,_]) zAa rfl rfl (fun w => Try_UK_fb5 _ _ w) gq (fun jG jH gt => ?_)
   refine zAd (qn ⟨gt.tail.tail, ?_⟩)
   refine zBh rfl ?_
   refine zCo zAa call43 rfl rfl rfl rfl (c43 _ (by omega) _ _ [_,_] (by simp) (zBb (i := 0) (rows := [[_], [_]]) rfl (by simp) rfl) gt) (fun jI gu => ?_)
   refine zAd (qn ⟨gu.tail.tail, ?_⟩)
   refine zBh rfl ?_
   refine zAu (ps := [(0, _),(1, _)]) (pv := [(0, .agg #[.bool _, .int _ _]),(1, .agg #[.bool _, .int _ _])]) (cs := [_,_,_,_]) zAa rfl rfl (fun w => zGs _ _ _ _ w) gu (fun jJ jK gv => ?_)
   refine zAd (qn ⟨gv.tail.tail.tail, ?_⟩)
   refine zBh rfl ?_
   refine zA4 zAa call42 rfl rfl rfl rfl (c42 c _ hm.cons.cons.cons.cons.cons.cons _ _ (spoilsL c a b) (by simp [spoilsL, putL, outL]) (fun x hx _ => by simp only [spoilsL, List.mem_cons, List.not_mem_nil, or_false] at hx; rcases hx with rfl | rfl <;> simp [noneA]) (zBb (i := 0) (rows := (arows (spoilsL c a b))) rfl (arow2 _) rfl) gv) ?_
   rintro _ jL (⟨hee, rfl, g8⟩ | ⟨hee, cb, mm, M, rfl, hM, g8⟩)
   ·
    refine zAd (qn ⟨g8.tail.tail.tail, ?_⟩)
    refine d_w rfl (fun _ => zA3 rfl rfl) rfl (d_w rfl (fun _ => zAw rfl rfl rfl) rfl (d_w rfl (fun _ => zAk rfl rfl rfl) rfl ?_))
    refine zBr rfl ?_
    refine zBj 2 (.pointer _) [_] sizeOf84 g8 (fun jM gV => ?_)
    refine zAd (qn ?_)
    refine d_w rfl (fun _ => zA0 rfl rfl) rfl ?_
    refine zBm ?_
    refine zAc (g0 _ _ (mdI ?_))
    have gW := (show St _ _ (_ :: _ :: _ :: F) from gV.tail.tail.tail)
    exact ⟨_, .inl ⟨hee, rfl, gW⟩⟩
   replace g8 := (show St _ _ (M ++ (_ :: _ :: _ :: _ :: _ :: _ :: _ :: F)) from g8)
   refine zAd (qn ⟨g8.drop.tail.tail.tail.tail, ?_⟩)
   refine d_w rfl (fun _ => zA3 rfl rfl) rfl (d_w rfl (fun _ => zAw rfl rfl rfl) rfl (d_w rfl (fun _ => zAk rfl rfl rfl) rfl ?_))
   have gX := (show St _ _ (_ :: _ :: _ :: _ :: _ :: _ :: _ :: (M ++ (F))) from St.pk [M, [_], [_], [_], [_], [_], [_], [_]] [1,2,3,4,5,6,7,0] g8)
   refine zBr rfl ?_
   refine zBj 3 (.pointer _) [_] sizeOf84 gX (fun jN gY => ?_)
   refine zAd (qn ?_)
   refine d_w rfl (fun _ => zA0 rfl rfl) rfl ?_
   refine zBm ?_
   refine zAc (g0 _ _ (mdI ?_))
   have gZ := (show St _ _ (_ :: _ :: _ :: _ :: _ :: (M ++ (F))) from St.pk [[_], [_], [_], [_], [_], [_], [_], M] [0,3,4,5,6,7] gY)
   exact ⟨_, .inr ⟨hee, cb, mm, M, rfl, hM, gZ⟩⟩
  intro vs μ jO hM
  clear hs
  obtain ⟨bc, hM⟩ := hM
  rcases hM with hM | hM
  ·
   obtain ⟨hee, rfl, hs⟩ := hM
   refine zAc (gg _ _ (zAf (fun jP jQ => (zAf (fun jR hD => (zAb (zA6 rfl rfl (w_p (zCs rfl rfl rfl rfl) rfl (zAd (zAc (hD _ _ (zAr rfl rfl (fun ga => ?_) (fun ga => ?_)))))))))))))
   ·
    try simp only [zS] at ga
    refine zAf (fun jS hN => (zAb (zA6 rfl rfl (zBi rfl rfl (zBw rfl rfl (zAd (zAc (hN _ _ (zA8 (zAl (zBa (l := [.tmp 6, .tmp 7]) (vs := [_,_]) rfl ⟨⟨rfl, (rfl : _ = Value.int _ _)⟩, ⟨rfl, (rfl : _ = Value.int _ _)⟩, trivial⟩ ?_)))))))))))
    exact ⟨by rw [spoilsP_e hee]; rfl, hs.tail.tail.tail⟩
   exfalso
   try simp only [zS] at ga
   exact hee ga
  obtain ⟨hee, cb, mm, M, rfl, hM, hs⟩ := hM
  have hew := zFp (fun x hx _ => by simp only [spoilsL, List.mem_cons, List.not_mem_nil, or_false] at hx; rcases hx with rfl | rfl <;> simp [noneA]) hee
  have hok := zEe hew.1
  have hlo := hok.ll
  have hle2 := hok.le
  have hlh2 := hok.lh
  refine zAc (gg _ _ (zAf (fun jT hP => (zAf (fun jU hX => (zAb (zA6 rfl rfl (w_p (zCs rfl rfl rfl rfl) rfl (zAd (zAc (hX _ _ (zBs rfl rfl ?_))))))))))))
  refine zAn (zAc (hP _ _ (zAf (fun jV hY => ?_))))
  have hab := zFz (any_2 hew.2.1).1
  obtain ⟨x, rfl⟩ : ∃ x : Nat, a = (x : Int) := ⟨a.toNat, by have := hab a (by simp); omega⟩
  obtain ⟨n, rfl⟩ : ∃ n : Nat, b = (n : Int) := ⟨b.toNat, by have := hab b (by simp); omega⟩
  have hxl : x < c.lots.length := by have := hab (x : Int) (by simp); omega
  have hnl : n < c.lots.length := by have := hab (n : Int) (by simp); omega
  have hlk := hok.lot _ (List.getElem_mem hnl)
  have hhe : c.lots[n].hold = ((holdOf c n : Nat) : Int) := by unfold holdOf; rw [zC5 hnl]; exact (Int.toNat_of_nonneg hlk.hold.1).symm
  have hhl : holdOf c n < c.holds.length := by have := hlk.hold; omega
  obtain ⟨bx, ox, hbx, hx⟩ := sl_lrows hm.l hnl
  refine w_drawD (C0 := fun w => St w0 w _) (C := fun w => ∃ M, Memo c mm M ∧ St w0 w ((cb, blk 138 [.slice p.ae c.heat.length p.ce, .int .i64 c.gas, .slice p.ah c.holds.length p.ch, .slice p.al c.lots.length p.cl, .slice p.an c.seen.length p.cn, .int .i64 ((0 : Nat) : Int), .map (some mm)]) :: (bc, blk 84 [.pointer (some ⟨cb, 0, none⟩)]) :: (b9, blk 3 [.int .i64 (n : Int)]) :: (b6, blk 3 [.int .i64 (x : Int)]) :: (b3, blk 27 (c.cells p)) :: (M ++ F))) [] [(0,1),(1,0),(2,1),(3,1),(4,0),(5,0),(6,1),(7,0),(8,0),(9,2),(10,0),(11,0)] zB4 (zBk (by kernel_rfl)) hs (fun _ h => ⟨_, hM, h⟩) (fun _ h => h.drew) (fun jW g9 => ?_)
  refine zCe rfl zAa rfl ⟨_, hM, g9⟩ (fun _ ⟨M, hM, hq⟩ => (zAg isAgg84 hq rfl rfl (aow 1 [_]))) ?_
  refine d_w rfl (fun _ => zAe (o := 3) (i := 3) underlying27 rfl sizeOf24 rfl rfl rfl) rfl ?_
  refine zCe rfl zAa rfl ⟨_, hM, g9⟩ (fun _ ⟨M, hM, hq⟩ => (zCl hbx (zAg isAgg24 hq rfl rfl (aow 4 [_])))) ?_
  refine zCe rfl zAa rfl ⟨_, hM, g9⟩ (fun _ ⟨M, hM, hq⟩ => (zAg isAgg3 hq rfl rfl (aow 2 [_]))) ?_
  refine d_w rfl (fun _ => zA7 underlying24 sizeOf38 rfl rfl rfl rfl (i := n) rfl hnl) rfl (d_w rfl (fun _ => zAe (o := 0) (i := 0) underlying38 rfl sizeOf3 rfl rfl rfl) rfl ?_)
  refine zCe rfl zAa rfl ⟨_, hM, g9⟩ (fun _ ⟨M, hM, hq⟩ => (zAg isAgg3 hq.tail.tail.tail.tail.tail.drop rfl rfl (show Ats _ _ _ _ [_] from Ats.part hx 0 1))) ?_
  refine d_w rfl (fun _ => zCc (fv := []) (cv := [_,_,_]) rfl rfl rfl rfl) rfl (d_w rfl (fun _ => zB1 (ps := [(0, _)]) (pv := [(0, .func _ _ _)]) rfl rfl (fun w => Try_UK_fb3 _ _ _ w)) rfl ?_)
  have j0 := (show St _ _ ((M ++ (_ :: _ :: _ :: _ :: _ :: F))) from St.pk [[_], [_], [_], [_], [_], M] [5,0,1,2,3,4] g9)
  refine zBh rfl ?_
  refine zA4 zAa call44 rfl rfl rfl rfl ((by have h := c44 (X := []) (B := []) (M := M) (F := (cb, blk 138 [.slice p.ae c.heat.length p.ce, .int .i64 c.gas, .slice p.ah c.holds.length p.ch, .slice p.al c.lots.length p.cl, .slice p.an c.seen.length p.cn, .int .i64 ((0 : Nat) : Int), .map (some mm)]) :: _ :: _ :: _ :: _ :: F) c p cb mm ⟨hm.cons.cons.cons.cons.cons, zB9 (i := 0) rfl rfl, hok.t, by omega⟩ hok (holdOf c n) hhl 52 #[] #[.pointer (some ⟨b6,0, none⟩), .pointer (some ⟨bc, 0, none⟩), .pointer (some ⟨b9,0, none⟩)] (spoilsQ c x n) (fun i B => B = []) (spoils_qis c p cb mm ⟨hm.cons.cons.cons.cons.cons, zB9 (i := 0) rfl rfl, hok.t, by omega⟩ hok (holdOf c n) hhl x n (by omega) (by omega) _ _ _ (aow 3 [_]) (aow 1 [_]) (aow 2 [_])) rfl hM j0; rw [← hhe] at h; exact h)) ?_
  rintro _ jX ⟨rfl, B1, M133, hJ1, j1, gf⟩
  subst hJ1
  replace gf := (show St _ _ (M133 ++ (_ :: _ :: _ :: _ :: _ :: F)) from gf)
  have gw := (show St _ _ (_ :: _ :: _ :: _ :: _ :: (M133 ++ (F))) from St.pk [M133, [_], [_], [_], [_], [_]] [1,2,3,4,5,0] gf)
  refine zAd (qn ⟨⟨_, j1, gw⟩, ?_⟩)
  refine d_w rfl (fun _ => zA0 rfl rfl) rfl (d_w rfl (fun _ => zCu (v := _) rfl rfl) rfl ?_)
  refine zBm ?_
  refine zAc (hY _ _ (zA8 (zBa (l := [.tmp 6, .tmp 7]) (vs := [_,_]) rfl ⟨⟨rfl, (rfl : _ = Value.int _ _)⟩, ⟨rfl, (rfl : _ = Value.int _ _)⟩, trivial⟩ ?_)))
  exact ⟨by rw [spoilsP_y hee]; rfl, gw.tail.tail.tail.tail.tail.drop⟩

end Go.Proofs.Ut
/- Rows of cells, one of which is set anew. No conditions. -/
namespace Go.Rt
theorem zG3 : ∀ (vs old pre post : List Value), old.length = vs.length → setMany (pre ++ (old ++ post)) pre.length vs = pre ++ (vs ++ post)
  | [], [], pre, post, _ => by simp [setMany]
  | v :: vs, o :: old, pre, post, h => by
    have ih := zG3 vs old (pre ++ [v]) post (by simpa using h)
    simp only [setMany]
    rw [List.set_append_right _ _ (Nat.le_refl _), Nat.sub_self, List.cons_append, List.set_cons_zero]
    simpa using ih
  | [], _ :: _,_,_, h => by simp at h
  | _ :: _, [], _,_, h => by simp at h
theorem flat_len_sz {rows : List (List Value)} {sz : Nat} (hr : ∀ row ∈ rows, row.length = sz) : rows.flatten.length = rows.length * sz := by
  induction rows with
  | nil => simp
  | cons r l ih => rw [List.flatten_cons, List.length_append, hr r (.head _), ih fun x hx => hr x (.tail _ hx), List.length_cons, Nat.succ_mul]; omega
end Go.Rt
/- The walking engine, part 23: slices of structs of numbers that are made; copies of rows. No conditions. -/
namespace Go.Rt
open Go.RowKit
variable {r : Option Nat} {P : Program} {ops : Array Oper} {Q : Exit → Act → World → Prop} {rest : List Oper} {n : Nat} {ρ : Nat → Value} {ds : List Deferred} {w w0 : World} {L : List (Nat × Obj)}
  {d : Option Tmp} {ty : TypeId} {p : String} {e : Array Edge} {g : Option (Nat × Bool)}
theorem w_makeZ {d : Nat} {t el : TypeId} {x y : Operand} {k sz bytes : Nat} {i : TypeInfo} {z : Value} (hw : Want ops (A n ρ ds) ⟨some d, .makeSlice t x y, ty, p, e, g⟩) (ht : P.underlying t = some (.slice el)) (hi : P.info? el = some i) (hz : i.zero = some z) (hzc : z.cells = (iv (List.replicate sz 0)).toArray) (hs0 : 0 < sz) (hsize : i.size = sz)
    (hk0 : k * sz ≤ 1000000) (hk1 : k ≤ 1000000) (hby : i.bytes = bytes) (hb : bytes ≤ 1000) (ho : okO n x = true) (ho1 : okO n y = true) (hx : ev ρ x = .int .i64 (k : Int)) (hy : ev ρ y = .int .i64 (k : Int)) (hst : St w0 w L)
    (hk : ∀ b w', St w0 w' ((b, blk el (iv (List.replicate (k * sz) 0))) :: L) → WL r P ops Q rest (A n (upd ρ d (.slice (some ⟨b, 0, none⟩) k k)) ds) w') :
    WL r P ops Q (⟨some d, .makeSlice t x y, ty, p, e, g⟩ :: rest) (A n ρ ds) w := by
  have hbk : (bytes : Int) * (k : Int) ≤ 1000 * 1000000 := by
    have h : bytes * k ≤ 1000 * 1000000 := Nat.mul_le_mul hb hk1
    have h2 : ((bytes * k : Nat) : Int) ≤ ((1000 * 1000000 : Nat) : Int) := by omega
    simpa using h2
  refine zIx (v := .slice (some ⟨w.heap.size, 0, none⟩) k k) (w' := w.alloc (blk el (iv (List.replicate (k * sz) 0)))) hw ?_ rfl (hk _ _ (hst.alloc _))
  have : (Instr.makeSlice t (.int .i64 (k : Int)) (.int .i64 (k : Int))).run P w = .ok (.slice (some ⟨w.heap.size, 0, none⟩) k k) (w.alloc (blk el (iv (List.replicate (k * sz) 0)))) := by
    have h := run_makeSlice (P := P) w t el i z ht hi hz .i64 .i64 (k : Int) (k : Int) (by omega) (by omega) (by rw [hsize, Int.toNat_natCast]; omega) (by rw [hby]; omega) (by omega)
    rw [h]
    have hm : madeCells z.cells (k * sz) = (iv (List.replicate (k * sz) 0)).toArray := by
      rw [hzc]
      apply Array.ext'
      apply List.ext_getElem?
      intro j
      by_cases hj : j < k * sz
      · have hmod : j % sz < sz := Nat.mod_lt _ hs0
        simp [madeCells, hj, hmod, List.getElem?_replicate]
      · simp [madeCells, hj, List.getElem?_replicate]
    simp only [Int.toNat_natCast, hsize, hm]
    rfl
  simp only [execOp, zCk ho, zCk ho1, hx, hy, Sem.run_bind, this]
  rfl
theorem rows_get {rows : List (List Value)} {sz : Nat} (hr : ∀ row ∈ rows, row.length = sz) : ∀ {j : Nat} {v : Value}, rows.flatten[j]? = some v → ∃ i k row, rows[i]? = some row ∧ row[k]? = some v ∧ j = i * sz + k := by
  induction rows with
  | nil => intro j v h; simp at h
  | cons r l ih =>
    intro j v h
    have hl := hr r (.head _)
    rw [List.flatten_cons] at h
    by_cases hj : j < r.length
    · rw [List.getElem?_append_left hj] at h
      exact ⟨0, j, r, rfl, h, by omega⟩
    · rw [List.getElem?_append_right (by omega)] at h
      obtain ⟨i, k, row, h1, h2, h3⟩ := ih (fun x hx => hr x (.tail _ hx)) h
      exact ⟨i + 1, k, row, by simpa using h1, h2, by rw [Nat.succ_mul]; omega⟩
theorem w_copyR {d : Nat} {t el : TypeId} {i sz : Nat} {x y : Operand} {b l c m c' : Nat} {tb : TypeId} {cs : List Value} {ax : Option Addr} {rows : List (List Value)}
    (hw : Want ops (A n ρ ds) ⟨some d, .call ⟨.builtin .copy, #[x, y], #[t, t]⟩, ty, p, e, g⟩)
    (hU : P.underlying t = some (.slice el)) (hsz : ∀ w, (sizeOf el).run P w = .ok sz w) (ho : okO n x = true) (ho1 : okO n y = true) (hx : ev ρ x = .slice (some ⟨b, 0, none⟩) l c) (hy : ev ρ y = .slice ax m c')
    (hst : St w0 w L) (hi : L[i]? = some (b, blk tb cs)) (hsl : Sl w0 L ax sz rows) (hr : ∀ row ∈ rows, row.length = sz) (hm : rows.length = m) (hle : m ≤ l) (h1 : ∀ row ∈ rows, ∀ u ∈ row, u.oneCell' = true) (hcs : m * sz ≤ cs.length)
    (hk : ∀ w', St w0 w' (L.set i (b, blk tb (rows.flatten ++ cs.drop (m * sz)))) → WL r P ops Q rest (A n (upd ρ d (.int .i64 (m : Nat))) ds) w') :
    WL r P ops Q (⟨some d, .call ⟨.builtin .copy, #[x, y], #[t, t]⟩, ty, p, e, g⟩ :: rest) (A n ρ ds) w := by
  have hfl : rows.flatten.length = m * sz := by rw [flat_len_sz hr, hm]
  have hmin : Nat.min m l = m := Nat.min_eq_left hle
  obtain ⟨w', hrun, hst'⟩ := zD7 (P := P) (b := b) (off := 0) (t := tb) (i := i) rows.flatten 0 cs w L hst hi (by omega) (fun v hv => by obtain ⟨row, h2, h3⟩ := List.mem_flatten.1 hv; exact h1 row h2 v h3)
  have hset : setMany cs 0 rows.flatten = rows.flatten ++ cs.drop (m * sz) := by
    have := zG3 rows.flatten (cs.take (m * sz)) [] (cs.drop (m * sz)) (by rw [List.length_take, hfl]; omega)
    simpa [List.take_append_drop] using this
  refine zIx (v := .int .i64 (m : Nat)) (w' := w') hw ?_ rfl (hk w' (by rw [← hset]; simpa using hst'))
  have e1 : execOp (A n ρ ds).eval ⟨some d, .call ⟨.builtin .copy, #[x, y], #[t, t]⟩, ty, p, e, g⟩ = (do pure (.value (← Builtin.copy_ #[t, t] ty #[.slice (some ⟨b, 0, none⟩) l c, .slice ax m c']))) := by
    simp only [execOp, resolve]
    have : (#[x, y].map (A n ρ ds).eval) = #[.slice (some ⟨b, 0, none⟩) l c, .slice ax m c'] := by simp [zCk ho, zCk ho1, hx, hy]
    rw [this]
    rfl
  have hfirst : (Builtin.firstCells sz m (.slice ax m c')).run P w = .ok rows.flatten.toArray w := by
    cases ax with
    | none =>
      have : rows = [] := by
        rcases hsl with h | ⟨_, _, h, _⟩
        · exact h
        · cases h
      subst this
      simp [Builtin.firstCells]
    | some ad =>
      unfold Builtin.firstCells
      rcases hsl with h | ⟨b', off', h, hat⟩
      · subst h
        simp only [List.length_nil] at hm
        subst hm
        simp [loadCells, loadCellsFrom]
      · cases h
        have := run_loadCells_list (P := P) (w := w) ⟨b', off', none⟩ rows.flatten (fun j v hj => by
          obtain ⟨i, k, row, h2, h3, rfl⟩ := rows_get hr hj
          rw [Addr.add_lit]
          have := (hat i row h2).2 k v h3 w hst
          rwa [Nat.add_assoc] at this)
        rw [hfl] at this
        exact this
  rw [e1, Sem.run_bind]
  have : (Builtin.copy_ #[t, t] ty #[.slice (some ⟨b, 0, none⟩) l c, .slice ax m c']).run P w = .ok (.int .i64 (m : Nat)) w' := by
    unfold Builtin.copy_
    simp only [List.getElem?_toArray, List.getElem?_cons_zero, List.getElem?_cons_succ]
    rw [Sem.run_bind, run_underlying hU]
    simp only [Result.andThen]
    rw [Sem.run_bind]
    show ((pure m : Sem Nat).run P w).andThen _ = _
    simp only [Sem.run_pure, Result.andThen]
    rw [Sem.run_bind, hsz]
    simp only [Result.andThen]
    rw [hmin, Sem.run_bind, hfirst]
    simp only [Result.andThen]
    rw [Sem.run_bind]
    rw [hrun]
    rfl
  rw [this]
  rfl
end Go.Rt
set_option maxRecDepth 20000
namespace Go.Proofs.Ut
open Go.Proofs.Tryz
open Go.Rt Go.Rt.Tu
open Go.Rt.Ha (firstE zB3 zAp zBn failE felt spanL upto zBv listL fewest fewTo bit Bunch before fewStep zB8 zCi zBx zB2 zCg zCf zBu)
attribute [local irreducible] WL WC Con Yd At Ats Sl Agree DW
theorem Try_flat92 : flatInts Tryz.prog 92 5 = true := by kernel_rfl
theorem zIn (x0 : Bool) (x1 : Int) (w : World) : (Instr.build 88 [(0, .bool x0),(1, .int .i64 x1)].toArray).run Tryz.prog w = .ok (.agg #[.bool x0, .int .i64 x1]) w := by kernel_rfl
theorem Try_UL_fb3 (x0 : Int) (x1 : Int) (w : World) : (Instr.buildSlice 22 2 [(0, .int .i64 x0),(1, .int .i64 x1)].toArray).run Tryz.prog w = .ok (.slice (some ⟨w.heap.size, 0, none⟩) 2 2) (w.alloc (Go.Rt.blk 3 [.int .i64 x0, .int .i64 x1])) := by kernel_rfl
theorem Try_UL_fb4 (x0 : Bool) (x1 : Int) (x2 : Bool) (x3 : Int) (x4 : Bool) (x5 : Int) (w : World) : (Instr.buildSlice 132 3 [(0, .agg #[.bool x0, .int .i64 x1]),(1, .agg #[.bool x2, .int .i64 x3]),(2, .agg #[.bool x4, .int .i64 x5])].toArray).run Tryz.prog w = .ok (.slice (some ⟨w.heap.size, 0, none⟩) 3 3) (w.alloc (Go.Rt.blk 88 [.bool x0, .int .i64 x1, .bool x2, .int .i64 x3, .bool x4, .int .i64 x5])) := by kernel_rfl
theorem Try_info38 : Tryz.prog.info? 38 = some Tryz.t38 := by kernel_rfl
theorem Try_UL_fb6 (x0 : Int) (x1 : Int) (x2 : Int) (x3 : Int) (w : World) : (Instr.build 38 [(0, .int .i64 x0),(1, .int .i64 x1),(2, .agg #[.int .i64 x2, .int .i64 x3])].toArray).run Tryz.prog w = .ok (.agg #[.int .i64 x0, .int .i64 x1, .int .i64 x2, .int .i64 x3]) w := by kernel_rfl
theorem Try_UL_fb7 (x0 : Go.Fn) (a0 c0 : Array Value) (w : World) : (Instr.build 98 [(0, .func x0 a0 c0)].toArray).run Tryz.prog w = .ok (.agg #[.func x0 a0 c0]) w := by kernel_rfl
theorem Try_UL_fb8 (x0 : Int) (w : World) : (Instr.buildSlice 22 1 [(0, .int .i64 x0)].toArray).run Tryz.prog w = .ok (.slice (some ⟨w.heap.size, 0, none⟩) 1 1) (w.alloc (Go.Rt.blk 3 [.int .i64 x0])) := by kernel_rfl
theorem upto_snoc : ∀ (n : Nat) (lo : Int), upto lo (n + 1) = upto lo n ++ [lo + n]
  | 0, lo => by simp [upto]
  | n + 1, lo => by
    rw [upto, upto_snoc n (lo + 1)]
    simp only [upto, List.cons_append]
    rw [show lo + 1 + (n : Int) = lo + (n + 1 : Nat) by omega]
theorem or_small {x n : Nat} (hx : x < 64) (hn : n < 5) : x ||| (1 <<< n) < 64 := by
  have h := shl5 hn
  exact Nat.or_lt_two_pow (n := 6) hx (by omega)
theorem sok_put {s : List Int} (h : SOk s) {n : Nat} (hn : n < 5) {z : Int} (hz : 0 ≤ z ∧ z ≤ 40) : SOk (putS n s z) := by
  have h1 := h.tt
  have h2 := or_small h1.2 hn
  exact sok_setg (sok_set7 h (by omega)) hn (by omega)
theorem put_set {n : Nat} {s : List Int} {x y : Int} : (putS n s x).set (2 + n) y = putS n s y := by unfold putS; rw [List.set_set]
theorem all_snoc {p : Int → Bool} {lo : Int} {q : Nat} (h : (upto lo q).all p = true) (h2 : p (lo + q) = true) : (upto lo (q + 1)).all p = true := by rw [upto_snoc, List.all_append, h]; simp [h2]
theorem all_span {p : Int → Bool} {lo hi : Int} {q : Nat} (h : (upto lo q).all p = true) (hq : q = (hi + 1 - lo).toNat) : true = (spanL lo hi).all p := by unfold spanL; rw [← hq, h]
theorem zGr {p : Int → Bool} {lo hi : Int} {q : Nat} (hq : q < (hi + 1 - lo).toNat) (h2 : p (lo + q) = false) : false = (spanL lo hi).all p := by
  symm
  rw [List.all_eq_false]
  exact ⟨lo + q, zBv.2 (by omega), by simp [h2]⟩
theorem putAt_yes {c2 : Cargo} {n : Nat} {u g : Int} {t s : List Int} (h1 : u < (times c2 (putS n s g)).getD n 0) (h2 : (times c2 (putS n s g)).set n (t.getD n 0) = t) : putAt c2 n u t s g = true := by unfold putAt tOf; rw [decide_eq_true h1, decide_eq_true h2]; rfl
theorem putAt_no1 {c2 : Cargo} {n : Nat} {u g : Int} {t s : List Int} (h1 : (times c2 (putS n s g)).getD n 0 ≤ u) : putAt c2 n u t s g = false := by unfold putAt tOf; rw [decide_eq_false (by omega)]; rfl
theorem putAt_no2 {c2 : Cargo} {n : Nat} {u g : Int} {t s : List Int} (h2 : ¬ (times c2 (putS n s g)).set n (t.getD n 0) = t) : putAt c2 n u t s g = false := by unfold putAt; rw [decide_eq_false h2, Bool.and_false]
theorem c56 {w0 w : World} {X B M F : List (Nat × Obj)} (c c2 : Cargo) (p2 : AtT) (cb2 mm2 : Nat) (hk : CK w0 F c2 p2 0 cb2 mm2) (n : Nat) (hn : c.lots.length = n) (hn5 : n < 5) (g : Int × Int) (hg : 0 ≤ g.1 ∧ g.1 ≤ g.2 ∧ g.2 ≤ 40) (until_ : Int) (b12 b5 b15 b7 : Nat) (h12 : Ats w0 F b12 0 [.int .i64 (n : Int)]) (h5 : Ats w0 F b5 0 [.int .i64 g.1, .int .i64 g.2]) (h15 : Ats w0 F b15 0 [.pointer (some ⟨cb2,0, none⟩)]) (h7 : Ats w0 F b7 0 [.int .i64 until_]) (s : List Int) (hso : SOk s) (hB : Memo c2 mm2 B) (hs : St w0 w (X ++ (B ++ (M ++ F)))) :
  Con Tryz.prog 56 [ia s, ia (times c s), .pointer (some ⟨b12,0, none⟩), .pointer (some ⟨b5,0, none⟩), .pointer (some ⟨b15,0, none⟩), .pointer (some ⟨b7,0, none⟩)] w fun v w' => v = .bool (putQ c c2 g until_ s) ∧ ∃ B', Memo c2 mm2 B' ∧ St w0 w' (X ++ (B' ++ (M ++ F))) := by
  refine zAo (n := 45) func56 rfl rfl (zNl rfl) ?_
  have hls := hso.len
  have htl := zBf c s
  have htt := hso.tt
  have hsh := shl5 hn5
  have hor := or_small htt.2 hn5
  refine zAf (fun K2 gd => (zAb (zEi (l := _) zAa rfl rfl rfl hs (fun b3 w4 ge => ?_))))
  refine zEi (l := _) zAa rfl rfl rfl ge (fun b6 w7 gf => ?_)
  refine zBi rfl rfl (zAd (zAc (gd _ _ (zAf (fun gB gg => (zCq [6] [(0,0),(1,1),(2,1),(3,0),(4,0),(5,0),(6,3)] zB4 (zBk (by kernel_rfl)) gf (fun gC g6 => ?_)))))))
  refine d_w rfl (fun _ => zAe (o := 7) (i := 3) underlying94 rfl sizeOf3 rfl rfl rfl) rfl ?_
  refine zAz rfl zAa rfl g6 (fun _ hq => (zAg isAgg3 hq rfl rfl (zEr (i := 1) (o := 7) rfl (by first | omega | rfl | (simp only [hls, zBf, zL] <;> omega))))) ?_
  refine zAz rfl zAa rfl g6 (fun _ hq => (zAg isAgg3 hq.tail.tail.drop.drop.drop rfl rfl h12)) ?_
  refine d_w rfl (fun _ => y_shl (x := 1) (y := n) rfl rfl rfl rfl rfl (by first | rfl | omega) (by first | omega | exact zCr (by omega)) (by first | omega | exact zCr (by omega))) rfl ?_
  refine d_w rfl (fun _ => y_or (x := tt s) (y := 1 <<< n) rfl rfl rfl rfl (by first | rfl | omega) (by first | rfl | omega) (by first | omega | exact zCr (by omega)) (by first | omega | exact zCr (by omega))) rfl ?_
  refine d_w rfl (fun _ => zAe (o := 7) (i := 3) underlying94 rfl sizeOf3 rfl rfl rfl) rfl ?_
  refine zBr rfl ?_
  refine zE8 (i := 1) (o := 7) zAa sizeOf3 rfl rfl rfl rfl g6 rfl (by first | omega | rfl | (simp only [hls, zBf, zL] <;> omega)) (fun gD gc => ?_)
  refine zAd (qn ?_)
  refine zBm ?_
  refine zAc (gg _ _ (zAf (fun gE gh => (zAf (fun gF gi => (zAb (w_p (zAe (o := 0) (i := 0) underlying36 rfl sizeOf3 rfl rfl rfl) rfl (w_p (zAg isAgg3 gc.tail.tail.drop.drop.drop rfl rfl (show Ats _ _ _ _ [_] from Ats.part h5 0 1)) rfl ?_))))))))
  refine zBw rfl rfl (zAd (zAc (gi _ _ (zAq ?_))))
  refine zB6 [8,9,10,19,20,21,22,23,24,25,26,27,28,29,30,31,32,33,34,35,36,37,38,39,40,41,42,43,44] [9] (fun k vs w => ∃ (q : Nat) (s2 : List Int) (B : List (Nat × Obj)), vs = [.int .i64 (g.1 + (q : Int))] ∧ (q : Int) ≤ g.2 + 1 - g.1 ∧ k = (g.2 + 1 - g.1).toNat - q ∧ s2.length = 8 ∧ (∀ x, s2.set (2 + n) x = putS n s x) ∧ (upto g.1 q).all (putAt c2 n until_ (times c s) s) = true ∧ Memo c2 mm2 B ∧ St w0 w ((b6, blk 92 (iv (times c s))) :: (b3, blk 94 (iv s2)) :: (X ++ (B ++ (M ++ F))))) ((g.2 + 1 - g.1).toNat) ?_ ?_
  ·
   exact ⟨0, _, B, iv1 (by omega), by omega, by omega, by rw [List.length_set]; exact hls, fun x => rfl, rfl, hB, gc⟩
  intro k vs μ gG hI gH gj
  clear hs hB
  obtain ⟨q, s2, B, rfl, hq, rfl, hs2l, hs2x, hall, hB, hs⟩ := hI
  refine zAf (fun gI gk => (zAf (fun gJ gm => (zAb (zA6 rfl rfl (w_p (zAe (o := 1) (i := 1) underlying36 rfl sizeOf3 rfl rfl rfl) rfl (w_p (zAg isAgg3 hs.tail.tail.drop.drop.drop rfl rfl (show Ats _ _ _ _ [_] from Ats.part h5 1 1)) rfl ?_)))))))
  refine w_p (zFc rfl rfl rfl rfl) rfl (zAd (zAc (gm _ _ (zAr rfl rfl (fun g7 => ?_) (fun g7 => ?_)))))
  ·
   try simp only [zS] at g7
   refine zAn (zAc (gk _ _ (zAf (fun gK gn => (zAq ?_)))))
   refine zAf (fun gL go => ?_)
   have hq2 : q < (g.2 + 1 - g.1).toNat := by omega
   refine zAb (w_p (zAg isAgg3 hs.tail.tail.drop.drop.drop rfl rfl h12) rfl (zA6 rfl rfl (w_p (zAe (o := 2) (i := 2) underlying94 rfl sizeOf92 rfl rfl rfl) rfl (w_p (zCw underlying92 sizeOf3 rfl rfl rfl rfl (i := n) (by first | rfl | omega) (by omega)) rfl ?_))))
   refine w_storeAtIO (i := 1) (o := 2) (j := n) zAa sizeOf3 rfl rfl rfl rfl hs rfl (by first | omega | rfl | (simp only [hls, zBf, zL] <;> omega)) (fun gM g4 => ?_)
   refine zAd (zAc (go _ _ (zAf (fun gN gp => ?_))))
   have hsp := sok_put hso hn5 (z := g.1 + (q : Int)) (by omega)
   have hspl := hsp.len
   refine zAb ?_
   rw [hs2x] at g4
   refine w_p (zAg isAgg84 g4.tail.tail.drop.drop.drop rfl rfl h15) rfl (w_p (zCt (i := 1) isAgg94 sizeOf94 (by first | omega | rfl | (simp only [hls, zBf, zL] <;> omega)) g4 rfl rfl rfl) rfl ?_)
   refine zA4 zAa call53 rfl rfl rfl rfl (zF5 (X := _ :: _ :: X) (M := B) (F := M ++ F) c2 p2 0 cb2 mm2 hk.app _ hsp hB g4) ?_
   rintro _ gO ⟨B2, rfl, hB2, g8⟩
   replace g8 := (show St _ _ (_ :: _ :: X ++ (B2 ++ (M ++ (F)))) from g8)
   refine zA1 (cs := iv [0,0,0,0,0]) zAa zeroValue92 rfl g8 (fun gP gQ gq => ?_)
   refine zDg (i := 0) (l := _) zAa sizeOf92 (by first | omega | rfl | (simp only [hls, zBf, zL] <;> omega)) rfl rfl rfl rfl rfl gq rfl (by first | omega | rfl | (simp only [hls, zBf, zL] <;> omega)) (fun gR gt => ?_)
   refine zAd (zAc (gp _ _ (zAf (fun gS gu => (zAf (fun gT gv => ?_))))))
   have ht2 := zBf c2 (putS n s (g.1 + (q : Int)))
   refine zCq [] [(0,1),(1,0),(2,1),(3,1),(4,0)] zB4 (zBk (by kernel_rfl)) gt (fun gU g0 => ?_)
   refine zAz rfl zAa rfl g0 (fun _ hq => (zAg isAgg3 hq.tail.tail.tail.drop.drop.drop rfl rfl h12)) ?_
   refine d_w rfl (fun _ => zCw underlying92 sizeOf3 rfl rfl rfl rfl (i := n) (by first | rfl | omega) (by omega)) rfl ?_
   refine zAz rfl zAa rfl g0 (fun _ hq => (zAg isAgg3 hq rfl rfl (zC9 (i := 0) (j := n) rfl (by first | omega | rfl | (simp only [hls, zBf, zL] <;> omega))))) ?_
   refine zAz rfl zAa rfl g0 (fun _ hq => (zAg isAgg3 hq.tail.tail.tail.drop.drop.drop rfl rfl h7)) ?_
   refine d_w rfl (fun _ => zFc rfl rfl rfl rfl) rfl ?_
   refine zBm ?_
   refine zAc (gv _ _ (zAr rfl rfl (fun g9 => ?_) (fun g9 => ?_)))
   ·
    try simp only [zS] at g9
    refine zAf (fun gV gw => (zAb (zBi rfl rfl (zAd (zAc (gw _ _ (zA8 (zAl (zA9 (zAl (zAl (zA9 (zAl (zBa (l := [.tmp 8]) (vs := [_]) rfl ⟨⟨rfl, (rfl : _ = Value.bool _)⟩, trivial⟩ ?_))))))))))))))
    first
      | exact ⟨congrArg Value.bool (zGr (q := q) (by omega) (by rw [hn]; exact putAt_no1 (by assumption))), B2, hB2, g0.tail.tail.tail⟩
      | exact ⟨congrArg Value.bool (zGr (q := q) (by omega) (by rw [hn]; exact putAt_no2 (by assumption))), B2, hB2, g0.tail.tail.tail⟩
      | exact ⟨congrArg Value.bool (all_span (q := q) (by rw [hn]; exact hall) (by omega)), B, hB, g0.tail.tail.tail⟩
   try simp only [zS] at g9
   refine zAn (zAc (gu _ _ (zAf (fun gW gx => (zCq [5] [(0,1),(1,1),(2,0),(3,1),(4,0),(5,3)] zB4 (zBk (by kernel_rfl)) g0 (fun gX g5 => ?_))))))
   refine zAz rfl zAa rfl g5 (fun _ hq => (zAg isAgg3 hq.tail.tail.tail.drop.drop.drop rfl rfl h12)) ?_
   refine zAz rfl zAa rfl g5 (fun _ hq => (zAg isAgg3 hq.tail.tail.tail.drop.drop.drop rfl rfl h12)) ?_
   refine d_w rfl (fun _ => zCw underlying92 sizeOf3 rfl rfl rfl rfl (i := n) (by first | rfl | omega) (by omega)) rfl ?_
   refine zAz rfl zAa rfl g5 (fun _ hq => (zAg isAgg3 hq rfl rfl (zC9 (i := 1) (j := n) rfl (by first | omega | rfl | (simp only [hls, zBf, zL] <;> omega))))) ?_
   refine d_w rfl (fun _ => zCw underlying92 sizeOf3 rfl rfl rfl rfl (i := n) (by first | rfl | omega) (by omega)) rfl ?_
   refine zBr rfl ?_
   refine zDp (i := 0) (j := n) zAa sizeOf3 rfl rfl rfl rfl g5 rfl (by first | omega | rfl | (simp only [hls, zBf, zL] <;> omega)) (fun gY g3 => ?_)
   refine zAd (qn ?_)
   refine zBm ?_
   refine zAc (gx _ _ (zAf (fun gZ gy => (zAb (w_p (zCt (i := 0) isAgg92 sizeOf92 (by first | omega | rfl | (simp only [hls, zBf, zL] <;> omega)) g3 rfl rfl rfl) rfl ?_)))))
   refine w_p (zCt (i := 1) isAgg92 sizeOf92 (by first | omega | rfl | (simp only [hls, zBf, zL] <;> omega)) g3 rfl rfl rfl) rfl ?_
   refine w_p (y_neFlat (l := _) (m := _) eqGuardType92 Try_flat92 (by first | omega | rfl | (simp only [hls, zBf, zL] <;> omega)) (by first | omega | rfl | (simp only [hls, zBf, zL] <;> omega)) rfl rfl rfl rfl rfl rfl) rfl ?_
   refine zAd (zAc (gy _ _ (zAr rfl rfl (fun ga => ?_) (fun ga => ?_))))
   ·
    try simp only [zS] at ga
    refine zAf (fun hD gz => (zAb (zBi rfl rfl (zAd (zAc (gz _ _ (zA8 (zA9 (zAl (zAl (zA9 (zAl (zBa (l := [.tmp 8]) (vs := [_]) rfl ⟨⟨rfl, (rfl : _ = Value.bool _)⟩, trivial⟩ ?_)))))))))))))
    first
      | exact ⟨congrArg Value.bool (zGr (q := q) (by omega) (by rw [hn]; exact putAt_no1 (by assumption))), B2, hB2, g3.tail.tail.tail⟩
      | exact ⟨congrArg Value.bool (zGr (q := q) (by omega) (by rw [hn]; exact putAt_no2 (by assumption))), B2, hB2, g3.tail.tail.tail⟩
      | exact ⟨congrArg Value.bool (all_span (q := q) (by rw [hn]; exact hall) (by omega)), B, hB, g3.tail.tail.tail⟩
   try simp only [zS] at ga
   refine zAn (zAi (zAc (gn _ _ (zAb (zA6 rfl rfl (w_p (zBo rfl rfl rfl rfl (by omega) (by omega)) rfl (zBw rfl rfl (zAd (zAc (gj _ _ (nxI ((g.2 + 1 - g.1).toNat - (q + 1)) (by omega) ?_)))))))))))
   exact ⟨q + 1, _, B2, iv1 (by omega), by omega, by omega, hspl, fun x => put_set, all_snoc hall (putAt_yes (by assumption) (by assumption)), hB2, g3.tail⟩
  try simp only [zS] at g7
  refine zBt (zAj (zAj (zAv (zAc (gh _ _ (zAf (fun hN gA => (zAb (zBi rfl rfl (zAd (zAc (gA _ _ (zA8 (zBa (l := [.tmp 8]) (vs := [_]) rfl ⟨⟨rfl, (rfl : _ = Value.bool _)⟩, trivial⟩ ?_))))))))))))))
  first
    | exact ⟨congrArg Value.bool (zGr (q := q) (by omega) (by rw [hn]; exact putAt_no1 (by assumption))), B2, hB2, hs.tail.tail⟩
    | exact ⟨congrArg Value.bool (zGr (q := q) (by omega) (by rw [hn]; exact putAt_no2 (by assumption))), B2, hB2, hs.tail.tail⟩
    | exact ⟨congrArg Value.bool (all_span (q := q) (by rw [hn]; exact hall) (by omega)), B, hB, hs.tail.tail⟩

theorem put_qis {w0 : World} {F : List (Nat × Obj)} (c c2 : Cargo) (p2 : AtT) (mm cb2 mm2 : Nat) (hk : CK w0 F c2 p2 0 cb2 mm2) (hco : c.Ok) (hold : Nat) (hh : hold < c.holds.length) (g : Int × Int) (hg : 0 ≤ g.1 ∧ g.1 ≤ g.2 ∧ g.2 ≤ 40) (until_ : Int) (b12 b5 b15 b7 : Nat) (h12 : Ats w0 F b12 0 [.int .i64 (c.lots.length : Int)]) (h5 : Ats w0 F b5 0 [.int .i64 g.1, .int .i64 g.2]) (h15 : Ats w0 F b15 0 [.pointer (some ⟨cb2,0, none⟩)]) (h7 : Ats w0 F b7 0 [.int .i64 until_]) : QIs w0 F c mm hold (.func (.func 56) #[] #[.pointer (some ⟨b12,0, none⟩), .pointer (some ⟨b5,0, none⟩), .pointer (some ⟨b15,0, none⟩), .pointer (some ⟨b7,0, none⟩)]) (putQ c c2 g until_) (fun i B => Memo c2 mm2 B) := by
  intro i hi B M X w hB hM hs
  have hlo := hco.ll
  refine (zDm call56 (c56 (X := X) (B := B) (M := M) (F := F) c c2 p2 cb2 mm2 hk c.lots.length rfl (by omega) g hg until_ b12 b5 b15 b7 h12 h5 h15 h7 _ (zEg hco hh (List.getElem_mem hi)).1 hB hs)).mono ?_
  rintro v w' ⟨rfl, B', hB', g0⟩
  exact ⟨rfl, B', M, hB', hM, g0⟩
theorem tin_with {w0 : World} {F : List (Nat × Obj)} {c : Cargo} {p : AtT} {l : Tu.Lot} {bl : Nat} (hm : TIn w0 F c p) (hc : c.Ok) (hs : Sl w0 F (some ⟨bl, 0, none⟩) 4 (lrows (c.lots ++ [l]))) : TIn w0 F (withLot c l) { p with al := some ⟨bl, 0, none⟩, cl := c.lots.length + 1 } :=
  ⟨hm.e, hm.h, hs, hm.n, hm.le, hm.lh, by have := hc.ll; simp only [withLot, List.length_append, List.length_cons, List.length_nil]; omega, hm.ln⟩
theorem tok_with {c : Cargo} (hc : c.Ok) (l : Tu.Lot) : (withLot c l).TOk := ⟨hc.le, by have := hc.ll; simp only [withLot, List.length_append, List.length_cons, List.length_nil]; omega, hc.heat, hc.gas⟩
theorem lrows_len (l : List Tu.Lot) : (lrows l).flatten.length = l.length * 4 := by
  rw [flat_len_sz (sz := 4) (by intro row h; obtain ⟨x, _, rfl⟩ := List.mem_map.1 h; rfl)]; simp [lrows]
theorem zIf (l : List Tu.Lot) (x : Tu.Lot) : (lrows (l ++ [x])).flatten = (lrows l).flatten ++ x.cells := by simp [lrows]
theorem put_rows {l : List Tu.Lot} {x : Tu.Lot} {old : List Value} (ho : old.length = 4) : setMany ((lrows l).flatten ++ old) (0 + l.length * 4) x.cells = (lrows (l ++ [x])).flatten := by
  have h := zG3 x.cells old (lrows l).flatten [] (by rw [ho]; rfl)
  rw [List.append_nil, List.append_nil, lrows_len] at h
  rw [Nat.zero_add, h, zIf]
theorem putP_e {c : Cargo} {g : Int × Int} {f u : Int} (h : ¬ enterE c (putL c g f u) = 0) : putP c g f u = ([], enterE c (putL c g f u)) := by unfold putP; rw [if_pos h]
theorem putP_y {c : Cargo} {g : Int × Int} {f u : Int} (h : enterE c (putL c g f u) = 0) : putP c g f u = (putTo c g f u c.holds.length, 0) := by unfold putP; rw [if_neg (by simp [h])]
theorem putL_1 {c : Cargo} {g : Int × Int} {f u : Int} (h : u ≤ f) : [hoursA c [f, u], (decide (widthE g 40 = 7), widthE g 40), (true, 2)] = putL c g f u := by unfold putL; rw [decide_eq_true h]; rfl
theorem putL_2 {c : Cargo} {g : Int × Int} {f u : Int} (h : ¬ u ≤ f) : [hoursA c [f, u], (decide (widthE g 40 = 7), widthE g 40), (!decide (widthE g 40 = 0), 2)] = putL c g f u := by
  unfold putL; rw [decide_eq_false h, Bool.false_or]; simp
theorem putL_ne {c : Cargo} {g : Int × Int} {f u : Int} : ∀ x ∈ putL c g f u, x.1 = true → x.2 ≠ 0 := by
  intro x hx h
  simp only [putL, List.mem_cons, List.not_mem_nil, or_false] at hx
  rcases hx with rfl | rfl | rfl
  · simp [hoursA]
  · simp only [decide_eq_true_eq] at h; rw [h]; decide
  · simp
theorem putL_ok {c : Cargo} {g : Int × Int} {f u : Int} (h : anyAsk (putL c g f u) = false) : (0 ≤ g.1 ∧ g.1 ≤ g.2 ∧ g.2 ≤ 40) ∧ 0 ≤ f ∧ f ≤ c.heat.length := by
  obtain ⟨h1, h2, h3⟩ := any_3 h
  have h4 := hoursA_ok h1 f (by simp)
  simp only [Bool.or_eq_false_iff, decide_eq_false_iff_not, Decidable.not_not] at h3
  have h5 := zGz h3.2
  omega
theorem putT_yes {c : Cargo} {g : Int × Int} {f u : Int} {k : Nat} (h : Tu.ask c k (putQ c (withLot c ⟨k, f, g.1, g.2⟩) g u) = 1) : putTo c g f u (k + 1) = putTo c g f u k ++ [(k : Int)] := by rw [putTo, if_pos h]
theorem putT_no {c : Cargo} {g : Int × Int} {f u : Int} {k : Nat} (h : ¬ Tu.ask c k (putQ c (withLot c ⟨k, f, g.1, g.2⟩) g u) = 1) : putTo c g f u (k + 1) = putTo c g f u k := by rw [putTo, if_neg h]
theorem put_len (c : Cargo) (g : Int × Int) (f u : Int) : ∀ i, (putTo c g f u i).length ≤ i
  | 0 => Nat.le_refl _
  | i + 1 => by
    have := put_len c g f u i
    rw [putTo]; split
    · simp; omega
    · omega
theorem c23 {w0 w : World} {F : List (Nat × Obj)} (c : Cargo) (p : AtT) (hm : TIn w0 F c p) (g : Int × Int) (frm until_ : Int) (hs : St w0 w F) :
  Con Tryz.prog 23 [.agg (c.cells p).toArray, .agg (scells g).toArray, .int .i64 frm, .int .i64 until_] w fun v w' => ∃ B a c', v = .tuple #[.slice a (putP c g frm until_).1.length c', .int .i64 (putP c g frm until_).2] ∧ Sl w0 B a 1 ((putP c g frm until_).1.map fun x => [Value.int .i64 x]) ∧ St w0 w' (B ++ F) := by
  refine zAo (n := 87) func23 rfl rfl (zNl rfl) ?_
  have hll0 := hm.ll
  refine zAf (fun K2 gB => (zAb (zCj (v := .agg #[.slice _ _ _, .int _ _, .slice _ _ _, .slice _ _ _, .slice _ _ _]) (cs := [_,_,_,_,_]) zAa rfl rfl rfl hs (fun b3 w4 gC => ?_))))
  refine zCj (v := .agg #[.int _ _, .int _ _]) (cs := [_,_]) zAa rfl rfl rfl gC (fun b6 w7 gD => ?_)
  refine zCj (v := .int _ _) (cs := [_]) zAa rfl rfl rfl gD (fun b9 ja gj => ?_)
  refine zBi rfl rfl (zBi rfl rfl (zAd (zAc (gB _ _ (zAf (fun jb gE => (zAb (w_p (zA2 (vs := [_,_]) isAgg36 sizeOf36 gj rfl rfl (aow 1 [_,_])) rfl ?_))))))))
  refine zCo zAa call54 rfl rfl rfl rfl (c54 g 40 (by omega) gj) (fun jc gF => ?_)
  refine zBw rfl rfl (zAd (zAc (gE _ _ (zAf (fun jd gk => (w_cut [9,11,19,20,21,22,23,24,25,26,27,28,29,30,31,32,33,34,35,36,37,38,39,40,41] [9,11] (fun vs w => (¬ enterE c (putL c g frm until_) = 0 ∧ (∃ x, vs = [.int .i64 (enterE c (putL c g frm until_)), x]) ∧ St w0 w ((b9, blk 3 [.int .i64 until_]) :: (b6, blk 36 [.int .i64 g.1, .int .i64 g.2]) :: (b3, blk 27 (c.cells p)) :: F)) ∨ (enterE c (putL c g frm until_) = 0 ∧ ∃ cb mm M, vs = [.int .i64 0, .pointer (some ⟨cb, 0, none⟩)] ∧ Memo c mm M ∧ St w0 w ((cb, blk 138 [.slice p.ae c.heat.length p.ce, .int .i64 c.gas, .slice p.ah c.holds.length p.ch, .slice p.al c.lots.length p.cl, .slice p.an c.seen.length p.cn, .int .i64 ((0 : Nat) : Int), .map (some mm)]) :: (b9, blk 3 [.int .i64 until_]) :: (b6, blk 36 [.int .i64 g.1, .int .i64 g.2]) :: (b3, blk 27 (c.cells p)) :: (M ++ F)))) (fun je g6 => ?_) ?_))))))
  ·
   refine zCq [] [(0,1),(1,1),(2,0),(3,1),(6,0),(7,0),(8,0),(9,0),(10,1),(11,0),(12,0),(4,2),(5,2),(13,0),(14,0),(15,0),(16,0),(17,0),(18,2),(19,2),(20,0),(21,0),(22,0),(23,0),(24,0)] zB4 (zBk (by kernel_rfl)) gF (fun jf g5 => ?_)
   refine zAz rfl zAa rfl g5 (fun _ hq => (zA2 (vs := [_,_,_,_,_]) isAgg27 sizeOf27 hq rfl rfl (aow 2 [_,_,_,_,_]))) ?_
   refine zAz rfl zAa rfl g5 (fun _ hq => (zA2 (vs := [_,_,_,_,_]) isAgg27 sizeOf27 hq rfl rfl (aow 2 [_,_,_,_,_]))) ?_
   refine d_w rfl (fun _ => zAy rfl rfl) rfl ?_
   refine zAz rfl zAa rfl g5 (fun _ hq => (zAg isAgg3 hq rfl rfl (aow 0 [_]))) ?_
   refine d_w rfl (fun _ => zAy rfl rfl) rfl (d_w rfl (fun _ => zCa rfl rfl rfl rfl) rfl (d_w rfl (fun _ => zAy rfl rfl) rfl (d_w rfl (fun _ => zB1 (ps := [(0, _),(1, _)]) (pv := [(0, .bool _),(1, .int _ _)]) rfl rfl (fun w => zIn _ _ w)) rfl ?_)))
   refine zAz rfl zAa rfl g5 (fun _ hq => (zAg isAgg3 hq rfl rfl (aow 0 [_]))) ?_
   refine d_w rfl (fun _ => zAy rfl rfl) rfl (d_w rfl (fun _ => zFc rfl rfl rfl rfl) rfl ?_)
   refine zBh rfl ?_
   refine zAu (ps := [(0, _),(1, _)]) (pv := [(0, .int _ _),(1, .int _ _)]) (cs := [_,_]) zAa rfl rfl (fun w => Try_UL_fb3 _ _ w) g5 (fun jg jh gm => ?_)
   refine zAd (qn ⟨gm.tail, ?_⟩)
   refine zBh rfl ?_
   refine zCo zAa call48 rfl rfl rfl rfl (c48 c _ hm.cons.cons.cons.cons _ _ [_,_] (by simp) (zBb (i := 0) (rows := [[_], [_]]) rfl (by simp) rfl) gm) (fun ji g8 => ?_)
   refine zAd (qn ⟨g8.tail, ?_⟩)
   refine d_w rfl (fun _ => zAt rfl rfl) rfl ?_
   refine zC6 (fun g9 => ?_) (fun g9 => ?_)
   ·
    try simp only [zS] at g9
    refine zBl rfl rfl rfl rfl ?_
    refine zBl rfl rfl rfl rfl ?_
    refine d_w rfl (fun _ => zA5 (v := _) rfl rfl rfl rfl) rfl (d_w rfl (fun _ => zB1 (ps := [(0, _),(1, _)]) (pv := [(0, .bool _),(1, .int _ _)]) rfl rfl (fun w => zIn _ _ w)) rfl ?_)
    refine zBh rfl ?_
    refine zAu (ps := [(0, _),(1, _),(2, _)]) (pv := [(0, .agg #[.bool _, .int _ _]),(1, .agg #[.bool _, .int _ _]),(2, .agg #[.bool _, .int _ _])]) (cs := [_,_,_,_,_,_]) zAa rfl rfl (fun w => Try_UL_fb4 _ _ _ _ _ _ w) g8 (fun jj jk gn => ?_)
    refine zAd (qn ⟨gn.tail.tail, ?_⟩)
    refine zBh rfl ?_
    refine zA4 zAa call42 rfl rfl rfl rfl ((by have h := c42 c _ hm.cons.cons.cons.cons.cons _ 3 [hoursA c [frm, until_], (decide (widthE g 40 = 7), widthE g 40), (true, 2)] (by simp) (by rw [(putL_1 (c := c) (g := g) (f := frm) (u := until_) (by omega))]; exact putL_ne) (zBb (i := 0) (rows := (arows [hoursA c [frm, until_], (decide (widthE g 40 = 7), widthE g 40), (true, 2)])) rfl (arow2 _) rfl) gn; rw [(putL_1 (c := c) (g := g) (f := frm) (u := until_) (by omega))] at h; exact h)) ?_
    rintro _ jl (⟨hee, rfl, g0⟩ | ⟨hee, cb, mm, M, rfl, hM, g0⟩)
    ·
     refine zAd (qn ⟨g0.tail.tail, ?_⟩)
     refine d_w rfl (fun _ => zA3 rfl rfl) rfl (d_w rfl (fun _ => zAw rfl rfl rfl) rfl (d_w rfl (fun _ => zAk rfl rfl rfl) rfl (d_w rfl (fun _ => zDf rfl rfl) rfl (d_w rfl (fun _ => zA0 rfl rfl) rfl ?_))))
     refine zBm ?_
     refine zAc (g6 _ _ (mdI ?_))
     have gG := (show St _ _ (_ :: _ :: _ :: F) from g0.tail.tail)
     exact .inl ⟨hee, ⟨_, rfl⟩, gG⟩
    replace g0 := (show St _ _ (M ++ (_ :: _ :: _ :: _ :: _ :: _ :: F)) from g0)
    refine zAd (qn ⟨g0.drop.tail.tail.tail, ?_⟩)
    refine d_w rfl (fun _ => zA3 rfl rfl) rfl (d_w rfl (fun _ => zAw rfl rfl rfl) rfl (d_w rfl (fun _ => zAk rfl rfl rfl) rfl (d_w rfl (fun _ => zDf rfl rfl) rfl (d_w rfl (fun _ => zA0 rfl rfl) rfl ?_))))
    refine zBm ?_
    refine zAc (g6 _ _ (mdI ?_))
    have gH := (show St _ _ (_ :: _ :: _ :: _ :: (M ++ (F))) from St.pk [M, [_], [_], [_], [_], [_], [_]] [1,4,5,6,0] g0)
    exact .inr ⟨hee, cb, mm, M, rfl, hM, gH⟩
   try simp only [zS] at g9
   refine zBe rfl (zAh rfl rfl rfl) rfl (fun _ => (zAy rfl rfl)) ?_
   refine zBe rfl (zAh rfl rfl rfl) rfl (fun _ => (zCs rfl rfl rfl rfl)) ?_
   refine d_w rfl (fun _ => zBg (v := .bool _) rfl rfl rfl rfl) rfl (d_w rfl (fun _ => zB1 (ps := [(0, _),(1, _)]) (pv := [(0, .bool _),(1, .int _ _)]) rfl rfl (fun w => zIn _ _ w)) rfl ?_)
   refine zBh rfl ?_
   refine zAu (ps := [(0, _),(1, _),(2, _)]) (pv := [(0, .agg #[.bool _, .int _ _]),(1, .agg #[.bool _, .int _ _]),(2, .agg #[.bool _, .int _ _])]) (cs := [_,_,_,_,_,_]) zAa rfl rfl (fun w => Try_UL_fb4 _ _ _ _ _ _ w) g8 (fun jm jo go => ?_)
   refine zAd (qn ⟨go.tail.tail, ?_⟩)
   refine zBh rfl ?_
   refine zA4 zAa call42 rfl rfl rfl rfl ((by have h := c42 c _ hm.cons.cons.cons.cons.cons _ 3 [hoursA c [frm, until_], (decide (widthE g 40 = 7), widthE g 40), (!decide (widthE g 40 = 0), 2)] (by simp) (by rw [(putL_2 (c := c) (g := g) (f := frm) (u := until_) (by omega))]; exact putL_ne) (zBb (i := 0) (rows := (arows [hoursA c [frm, until_], (decide (widthE g 40 = 7), widthE g 40), (!decide (widthE g 40 = 0), 2)])) rfl (arow2 _) rfl) go; rw [(putL_2 (c := c) (g := g) (f := frm) (u := until_) (by omega))] at h; exact h)) ?_
   rintro _ jp (⟨hee, rfl, g3⟩ | ⟨hee, cb, mm, M, rfl, hM, g3⟩)
   ·
    refine zAd (qn ⟨g3.tail.tail, ?_⟩)
    refine d_w rfl (fun _ => zA3 rfl rfl) rfl (d_w rfl (fun _ => zAw rfl rfl rfl) rfl (d_w rfl (fun _ => zAk rfl rfl rfl) rfl (d_w rfl (fun _ => zDf rfl rfl) rfl (d_w rfl (fun _ => zA0 rfl rfl) rfl ?_))))
    refine zBm ?_
    refine zAc (g6 _ _ (mdI ?_))
    have gI := (show St _ _ (_ :: _ :: _ :: F) from g3.tail.tail)
    exact .inl ⟨hee, ⟨_, rfl⟩, gI⟩
   replace g3 := (show St _ _ (M ++ (_ :: _ :: _ :: _ :: _ :: _ :: F)) from g3)
   refine zAd (qn ⟨g3.drop.tail.tail.tail, ?_⟩)
   refine d_w rfl (fun _ => zA3 rfl rfl) rfl (d_w rfl (fun _ => zAw rfl rfl rfl) rfl (d_w rfl (fun _ => zAk rfl rfl rfl) rfl (d_w rfl (fun _ => zDf rfl rfl) rfl (d_w rfl (fun _ => zA0 rfl rfl) rfl ?_))))
   refine zBm ?_
   refine zAc (g6 _ _ (mdI ?_))
   have gJ := (show St _ _ (_ :: _ :: _ :: _ :: (M ++ (F))) from St.pk [M, [_], [_], [_], [_], [_], [_]] [1,4,5,6,0] g3)
   exact .inr ⟨hee, cb, mm, M, rfl, hM, gJ⟩
  intro vs μ jq hM
  clear hs
  rcases hM with hM | hM
  ·
   obtain ⟨hee, ⟨xx, rfl⟩, hs⟩ := hM
   refine zAc (gk _ _ (zAf (fun jr js => (zAf (fun jt gK => (zAb (zA6 rfl rfl (w_p (zCs rfl rfl rfl rfl) rfl (zAd (zAc (gK _ _ (zAr rfl rfl (fun g7 => ?_) (fun g7 => ?_)))))))))))))
   ·
    try simp only [zS] at g7
    refine zAf (fun ju gL => (zAb (zA6 rfl rfl (zBi rfl rfl (zBw rfl rfl (zAd (zAc (gL _ _ (zA8 (zAl (zBa (l := [.tmp 8, .tmp 9]) (vs := [_,_]) rfl ⟨⟨rfl, show _ = (.slice _ _ _ : Value) from rfl⟩, ⟨rfl, (rfl : _ = Value.int _ _)⟩, trivial⟩ ?_)))))))))))
    exact ⟨[], none, 0, by rw [putP_e hee]; rfl, by rw [putP_e hee]; exact Sl.nil _ _, hs.tail.tail.tail⟩
   exfalso
   try simp only [zS] at g7
   exact hee g7
  obtain ⟨hee, cb, mm, M, rfl, hM, hs⟩ := hM
  have hew := zFp putL_ne hee
  have hok := zEe hew.1
  have hlo := hok.ll
  have hle2 := hok.le
  have hlh2 := hok.lh
  refine zAc (gk _ _ (zAf (fun jv gM => (zAf (fun jw gN => (zAb (zA6 rfl rfl (w_p (zCs rfl rfl rfl rfl) rfl (zAd (zAc (gN _ _ (zBs rfl rfl ?_))))))))))))
  refine zAn (zAc (gM _ _ (zAf (fun jx gO => ?_))))
  obtain ⟨hgr, hfr⟩ := putL_ok hew.2.1
  refine zAb (w_p (zAe (o := 3) (i := 3) underlying27 rfl sizeOf24 rfl rfl rfl) rfl (w_p (zAg isAgg24 hs rfl rfl (aow 3 [_])) rfl (w_p (zBc underlying24 rfl rfl) rfl ?_)))
  refine zA1 (cs := [_]) zAa zeroValue3 rfl hs (fun gp jy gP => ?_)
  refine zBj 0 (.int _ _) [_] sizeOf3 gP (fun jz gq => ?_)
  refine zAd (zAc (gO _ _ (zAf (fun jA gQ => (zAb (w_p (zA2 (vs := [_,_,_,_,_]) isAgg27 sizeOf27 gq rfl rfl (aow 4 [_,_,_,_,_])) rfl ?_))))))
  refine zA1 (cs := [_,_,_,_,_]) zAa zeroValue27 rfl gq (fun gR jB gS => ?_)
  refine zBj 0 (.agg #[.slice _ _ _, .int _ _, .slice _ _ _, .slice _ _ _, .slice _ _ _]) [_,_,_,_,_] sizeOf27 gS (fun jC gt => ?_)
  refine zAd (zAc (gQ _ _ (zAf (fun jD gT => (zAb (w_p (zAg isAgg3 gt rfl rfl (aow 1 [_])) rfl (w_p (zHz (z' := ((c.lots.length + 1 : Nat) : Int)) (by omega) (zBo rfl rfl rfl rfl (by omega) (by omega))) rfl ?_)))))))
  refine w_makeZ (k := c.lots.length + 1) (sz := 4) zAa underlying24 Try_info38 rfl rfl (by decide) rfl (by omega) (by omega) rfl (zNl rfl) rfl rfl rfl rfl gt (fun g4 jE gU => ?_)
  refine w_p (zAe (o := 3) (i := 3) underlying27 rfl sizeOf24 rfl rfl rfl) rfl (zBj 1 (.slice _ _ _) [_] sizeOf24 gU (fun jF ga => ?_))
  refine zAd (zAc (gT _ _ (zAf (fun jG gV => (zAb (w_p (zAe (o := 3) (i := 3) underlying27 rfl sizeOf24 rfl rfl rfl) rfl (w_p (zAg isAgg24 ga rfl rfl (aow 1 [_])) rfl ?_)))))))
  refine w_p (zAe (o := 3) (i := 3) underlying27 rfl sizeOf24 rfl rfl rfl) rfl (w_p (zAg isAgg24 ga rfl rfl (aow 6 [_])) rfl ?_)
  refine w_copyR (i := 0) (sz := 4) (rows := lrows c.lots) zAa underlying24 sizeOf38 rfl rfl rfl rfl ga rfl hm.l.app.cons.cons.cons.cons.cons.cons.cons (fun row h => by obtain ⟨x, _, rfl⟩ := List.mem_map.1 h; rfl) (by simp [lrows]) (by omega) (fun row h u hu => by obtain ⟨x, _, rfl⟩ := List.mem_map.1 h; simp only [Tu.Lot.cells, List.mem_cons, List.not_mem_nil, or_false] at hu; rcases hu with rfl | rfl | rfl | rfl <;> rfl) (by simp only [List.length_map, List.length_replicate]; omega) (fun jH gW => ?_)
  refine zAd (zAc (gV _ _ (zAf (fun jI gX => (zAf (fun jJ gY => ?_))))))
  have gu := (show St _ _ (_ :: _ :: _ :: _ :: _ :: _ :: _ :: (M ++ (F))) from St.pk [[_], [_], [_], [_], [_], [_], [_], M] [3,0,1,2,4,5,6,7] gW)
  have hmc : ∀ l : Tu.Lot, ((withLot c l).cells ({ p with al := some ⟨g4,0, none⟩, cl := c.lots.length + 1 } : AtT)) = [.slice p.ae c.heat.length p.ce, .int .i64 c.gas, .slice p.ah c.holds.length p.ch, .slice (some ⟨g4,0, none⟩) (c.lots.length + 1) (c.lots.length + 1), .slice p.an c.seen.length p.cn] := fun l => by simp [withLot, Cargo.cells]
  refine zAb (w_p (zAe (o := 2) (i := 2) underlying27 rfl sizeOf23 rfl rfl rfl) rfl (w_p (zAg isAgg23 gu rfl rfl (aow 6 [_])) rfl (w_p (zBc underlying23 rfl rfl) rfl (w_p (zBy (v := _) rfl rfl) rfl ?_))))
  refine zAd (zAc (gY _ _ (zAq ?_)))
  refine zB6 [8,14,15,16,61,62,63,64,65,66,67,68,69,70,71,72,73,74,75,76,77,78,79,80,81,82,83,84,85] [8,61] (fun kk vs w => ∃ (k : Nat) (v : Value) (old : List Value) (B M : List (Nat × Obj)), vs = [v, .int .i64 k] ∧ k ≤ c.holds.length ∧ kk = c.holds.length - k ∧ old.length = 4 ∧ Rt.Own v 3 1 (putTo c g frm until_ k).length (iv (putTo c g frm until_ k)) B ∧ Memo c mm M ∧ St w0 w ((cb, blk 138 [.slice p.ae c.heat.length p.ce, .int .i64 c.gas, .slice p.ah c.holds.length p.ch, .slice p.al c.lots.length p.cl, .slice p.an c.seen.length p.cn, .int .i64 ((0 : Nat) : Int), .map (some mm)]) :: (g4, blk 38 ((lrows c.lots).flatten ++ old)) :: (gR, blk 27 [.slice p.ae c.heat.length p.ce, .int .i64 c.gas, .slice p.ah c.holds.length p.ch, .slice (some ⟨g4,0, none⟩) (c.lots.length + 1) (c.lots.length + 1), .slice p.an c.seen.length p.cn]) :: (gp, blk 3 [.int .i64 (c.lots.length : Int)]) :: (b9, blk 3 [.int .i64 until_]) :: (b6, blk 36 [.int .i64 g.1, .int .i64 g.2]) :: (b3, blk 27 (c.cells p)) :: (B ++ (M ++ F)))) (c.holds.length) ?_ ?_
  ·
   exact ⟨0, _,_, [], M, rfl, by omega, by omega, (by simp only [List.length_drop, List.length_map, List.length_replicate]; omega), zEm 3 1, hM, gu⟩
  intro k vs μ jK hI jL gv
  clear hs hM
  obtain ⟨k, v, old, B, M, rfl, hka, rfl, hold4, hown, hM, hs⟩ := hI
  refine zAf (fun jM gZ => (zAb (w_p (zCp rfl rfl rfl rfl) rfl (zAd (zAc (gZ _ _ (zAf (fun jN hD => (zAr rfl rfl (fun gc => ?_) (fun gc => ?_))))))))))
  ·
   try simp only [zS] at gc
   refine zAn (zAc (hD _ _ (zAf (fun jO gw => (zAq ?_)))))
   refine zAf (fun jP hN => (zAb (zA6 rfl rfl (zBw rfl rfl (zAd (zAc (hN _ _ (zAf (fun jQ hP => ?_)))))))))
   have hk2 : k < c.holds.length := by omega
   have hpl := put_len c g frm until_ k
   refine zAb (w_p (zAe (o := 3) (i := 3) underlying27 rfl sizeOf24 rfl rfl rfl) rfl (w_p (zAg isAgg24 hs rfl rfl (aow 2 [_])) rfl (w_p (zAg isAgg3 hs rfl rfl (aow 3 [_])) rfl (zA6 rfl rfl (zA6 rfl rfl (w_p (zA2 (vs := [_,_]) isAgg36 sizeOf36 hs rfl rfl (aow 5 [_,_])) rfl ?_))))))
   refine w_p (zB1 (ps := [(0, _),(1, _),(2, _)]) (pv := [(0, .int _ _),(1, .int _ _),(2, .agg #[.int _ _, .int _ _])]) rfl rfl (fun w => Try_UL_fb6 _ _ _ _ w)) rfl (w_p (zA7 underlying24 sizeOf38 rfl rfl rfl rfl (i := c.lots.length) rfl (by omega)) rfl ?_)
   refine zH1 (i := 1) (v := .agg #[.int _ _, .int _ _, .int _ _, .int _ _]) (vs := (⟨(k : Int), frm, g.1, g.2⟩ : Tu.Lot).cells) zAa sizeOf38 rfl rfl rfl rfl rfl (by simp [Tu.Lot.cells, Value.oneCell']) hs rfl (by rw [List.length_append, lrows_len, hold4]; show 0 + c.lots.length * 4 + 4 ≤ _; omega) (fun jR gd => ?_)
   rw [put_rows hold4] at gd
   refine zAd (zAc (hP _ _ (zAf (fun jS hX => (zAb (w_p (zA2 (vs := [_,_,_,_,_]) isAgg27 sizeOf27 gd rfl rfl (aow 2 [_,_,_,_,_])) rfl ?_))))))
   refine zA4 zAa call55 rfl rfl rfl rfl ((by have h := c55 (withLot c (⟨(k : Int), frm, g.1, g.2⟩ : Tu.Lot)) ({ p with al := some ⟨g4,0, none⟩, cl := c.lots.length + 1 } : AtT) 0 gd; rw [hmc] at h; exact h)) ?_
   rintro _ jT ⟨cb2, mm2, rfl, ge⟩
   replace ge := (show St _ _ (_ :: _ :: _ :: _ :: _ :: _ :: _ :: _ :: _ :: B ++ (M ++ (F))) from ge)
   refine zA1 (cs := [_]) zAa zeroValue84 rfl ge (fun hY jU j0 => ?_)
   refine zBj 0 (.pointer _) [_] sizeOf84 j0 (fun jV j1 => ?_)
   refine zAd (zAc (hX _ _ (zAf (fun jW j3 => (zAb (w_p (zCn rfl rfl) rfl (zA6 rfl rfl (w_p (zCc (fv := []) (cv := [_,_,_,_]) rfl rfl rfl rfl) rfl ?_))))))))
   refine w_p (zB1 (ps := [(0, _)]) (pv := [(0, .func _ _ _)]) rfl rfl (fun w => Try_UL_fb7 _ _ _ w)) rfl ?_
   have j4 := (show St _ _ ((B ++ (_ :: (M ++ (_ :: _ :: _ :: _ :: _ :: _ :: _ :: _ :: _ :: F))))) from St.pk [[_], [_], [_], [_], [_], [_], [_], [_], [_], [_], B, M] [10,2,11,0,1,3,4,5,6,7,8,9] j1)
   refine zA4 zAa call44 rfl rfl rfl rfl ((by have h := c44 (X := B) (B := [_]) (M := M) (F := _ :: _ :: (cb, blk 138 [.slice p.ae c.heat.length p.ce, .int .i64 c.gas, .slice p.ah c.holds.length p.ch, .slice p.al c.lots.length p.cl, .slice p.an c.seen.length p.cn, .int .i64 ((0 : Nat) : Int), .map (some mm)]) :: _ :: _ :: _ :: _ :: _ :: _ :: F) c p cb mm ⟨hm.cons.cons.cons.cons.cons.cons.cons.cons.cons, zB9 (i := 2) rfl rfl, hok.t, by omega⟩ hok k hk2 56 #[] #[.pointer (some ⟨gp,0, none⟩), .pointer (some ⟨b6,0, none⟩), .pointer (some ⟨hY,0, none⟩), .pointer (some ⟨b9,0, none⟩)] (putQ c (withLot c (⟨(k : Int), frm, g.1, g.2⟩ : Tu.Lot)) g until_) (fun i B => Memo (withLot c (⟨(k : Int), frm, g.1, g.2⟩ : Tu.Lot)) mm2 B) (put_qis c (withLot c (⟨(k : Int), frm, g.1, g.2⟩ : Tu.Lot)) ({ p with al := some ⟨g4,0, none⟩, cl := c.lots.length + 1 } : AtT) mm cb2 mm2 ⟨(tin_with (hm.cons.cons.cons.cons.cons.cons.cons.cons.cons) hok (zBb (i := 3) (rows := lrows (c.lots ++ [(⟨(k : Int), frm, g.1, g.2⟩ : Tu.Lot)])) rfl (fun row h => by obtain ⟨x, _, rfl⟩ := List.mem_map.1 h; rfl) (by have h := lrows_len (c.lots ++ [(⟨(k : Int), frm, g.1, g.2⟩ : Tu.Lot)]); rw [show (lrows (c.lots ++ [(⟨(k : Int), frm, g.1, g.2⟩ : Tu.Lot)])).length = (c.lots ++ [(⟨(k : Int), frm, g.1, g.2⟩ : Tu.Lot)]).length by simp [lrows], ← h, List.take_length]))), zB9 (i := 1) rfl rfl, tok_with hok _, by omega⟩ hok k hk2 g hgr until_ _ _ _ _ (aow 5 [_]) (aow 7 [_,_]) (aow 0 [_]) (aow 6 [_])) (zE1 _ mm2) hM j4; exact h)) ?_
   rintro _ jX ⟨rfl, B1, M120, hJ1, gx, gf⟩
   replace gf := (show St _ _ (B ++ (B1 ++ (M120 ++ (_ :: _ :: _ :: _ :: _ :: _ :: _ :: _ :: _ :: F)))) from gf)
   have gy := (show St _ _ (_ :: _ :: _ :: _ :: _ :: _ :: _ :: _ :: _ :: (B ++ ((B1 ++ ((M120 ++ (F))))))) from St.pk [B, B1, M120, [_], [_], [_], [_], [_], [_], [_], [_], [_]] [3,4,5,6,7,8,9,10,11,0,1,2] gf)
   refine zBw rfl rfl (zAd (zAc (j3 _ _ (zAf (fun jY j5 => (zAb (zA6 rfl rfl (w_p (zCa rfl rfl rfl rfl) rfl (zAd (zAc (j5 _ _ (zAr rfl rfl (fun gg => ?_) (fun gg => ?_)))))))))))))
   ·
    try simp only [zS] at gg
    refine zAb (w_p (zBy (v := v) rfl rfl) rfl (zA6 rfl rfl (zAu (ps := [(0, _)]) (pv := [(0, .int _ _)]) (cs := [_]) zAa rfl rfl (fun w => Try_UL_fb8 _ w) gy (fun jZ k4 j6 => ?_))))
    refine zC7 (X := (_ :: _ :: _ :: _ :: _ :: _ :: _ :: _ :: _ :: _ :: [])) (B := B) (rows := [[_]]) (sz := 1) (bytes := 8) zAa underlying22 zC3 rfl rfl rfl rfl rfl rfl rfl rfl rfl j6 hown (zBb (i := 0) rfl (by simp) rfl) rfl (by simp) (by simp [Value.oneCell']) (by simp only [maxLen]; omega) (by omega) (fun j7 k5 gh j8 gi => ?_)
    replace gi := (show St _ _ (_ :: _ :: _ :: _ :: _ :: _ :: _ :: _ :: _ :: _ :: gh ++ (B1 ++ (M120 ++ (F)))) from gi)
    refine w_p (zCu (v := j7) rfl rfl) rfl (zAd (zAi (zAc (gw _ _ (zAb (w_p (zBo rfl rfl rfl rfl (by omega) (by omega)) rfl (zA6 rfl rfl (zAd (zAc (gv _ _ (nxI (c.holds.length - (k + 1)) (by omega) ?_)))))))))))
    have gz := (show St _ _ (_ :: _ :: _ :: _ :: _ :: _ :: _ :: (gh ++ ((M120 ++ (F))))) from St.pk [[_], [_], [_], [_], [_], [_], [_], [_], [_], [_], gh, B1, M120] [3,4,5,6,7,8,9,10,12] gi)
    rw [zIf] at gz
    exact ⟨k + 1, _,_,_, M120, rfl, by omega, rfl, rfl, by rw [putT_yes (by assumption)]; exact zFi j8, gx, gz⟩
   try simp only [zS] at gg
   refine zAn (zAi (zAc (gw _ _ (zAb (w_p (zBo rfl rfl rfl rfl (by omega) (by omega)) rfl (zA6 rfl rfl (zAd (zAc (gv _ _ (nxI (c.holds.length - (k + 1)) (by omega) ?_))))))))))
   have gA := (show St _ _ (_ :: _ :: _ :: _ :: _ :: _ :: _ :: (B ++ ((M120 ++ (F))))) from St.pk [[_], [_], [_], [_], [_], [_], [_], [_], [_], B, B1, M120] [2,3,4,5,6,7,8,9,11] gy)
   rw [zIf] at gA
   exact ⟨k + 1, v, _, B, M120, rfl, by omega, rfl, rfl, by rw [putT_no (by assumption)]; exact hown, gx, gA⟩
  try simp only [zS] at gc
  refine zBt (zAj (zAj (zAv (zAc (gX _ _ (zAf (fun k6 j9 => (zAb (w_p (zBy (v := v) rfl rfl) rfl (w_p (zCu (v := v) rfl rfl) rfl ?_))))))))))
  refine zBi rfl rfl (zAd (zAc (j9 _ _ (zA8 (zBa (l := [.tmp 8, .tmp 9]) (vs := [_,_]) rfl ⟨⟨rfl, show _ = (v : Value) from rfl⟩, ⟨rfl, (rfl : _ = Value.int _ _)⟩, trivial⟩ ?_)))))
  have hin : k = c.holds.length := by omega
  subst hin
  obtain ⟨a9, c9, rfl, hsl9, _⟩ := zFj (w0 := w0) hown
  exact ⟨B, a9, c9, by rw [putP_y hee]; rfl, by rw [putP_y hee]; exact hsl9, kq_opq hs.tail.tail.tail.tail.tail.tail.tail⟩

end Go.Proofs.Ut
set_option maxRecDepth 20000
namespace Go.Proofs.Ut
open Go.Proofs.Tryz
open Go.Rt Go.Rt.Tu
open Go.Rt.Ha (firstE zB3 zAp zBn failE felt spanL upto zBv listL fewest fewTo bit Bunch before fewStep zB8 zCi zBx zB2 zCg zCf zBu)
attribute [local irreducible] WL WC Con Yd At Ats Sl Agree DW
theorem Try_UM_fb3 (x0 : Int) (w : World) : (Instr.buildSlice 22 1 [(0, .int .i64 x0)].toArray).run Tryz.prog w = .ok (.slice (some ⟨w.heap.size, 0, none⟩) 1 1) (w.alloc (Go.Rt.blk 3 [.int .i64 x0])) := by kernel_rfl
def cmpI (a b : Int) : Int := if a < b then -1 else if b < a then 1 else 0
theorem zJb {a b : List Int} {i : Nat} (h : a.take i = b.take i) (ha : i < a.length) (hb : i < b.length) (hne : ¬ cmpI a[i] b[i] = 0) : decide (0 < cmpI a[i] b[i]) = less b a := by
  have hn : a[i] ≠ b[i] := fun e => hne (by unfold cmpI; rw [e]; simp)
  rw [zEc h.symm hb ha (fun e => hn e.symm)]
  unfold cmpI
  rw [Bool.eq_iff_iff]
  simp only [decide_eq_true_eq]
  split
  · simp; omega
  · split <;> simp <;> omega
theorem cmp_zero {a b : Int} (h : cmpI a b = 0) : a = b := by
  unfold cmpI at h
  split at h
  · omega
  · split at h <;> omega
theorem zGd {x i : Nat} (h : ((bit x i : Nat) : Int) = 1) : listL x (i + 1) = listL x i ++ [(i : Int)] := by simp only [listL]; rw [if_pos (by omega)]
theorem zHq {x i : Nat} (h : ¬ ((bit x i : Nat) : Int) = 1) : listL x (i + 1) = listL x i := by simp only [listL]; rw [if_neg (by omega), List.append_nil]
theorem zDx (x : Nat) : ∀ n, (listL x n).length ≤ n
  | 0 => by simp [listL]
  | n + 1 => by have := zDx x n; simp only [listL, List.length_append]; split <;> simp <;> omega
theorem zGo (b : Nat) : ∀ n, ∀ z ∈ listL b n, 0 ≤ z ∧ z < n
  | 0, z, h => by simp [listL] at h
  | n + 1, z, h => by
    simp only [listL, List.mem_append] at h
    rcases h with h | h
    · have := zGo b n z h; omega
    · split at h <;> simp at h; omega
theorem shl_16 {n : Nat} (h : n ≤ 4) : 1 ≤ 1 <<< n ∧ 1 <<< n ≤ 16 := by
  have h2 := shl5 (i := n) (by omega)
  have := Nat.pow_pos (n := n) (show 0 < 2 by omega)
  omega
theorem zDn {d : Nat → Bool} {n s : Nat} (h1 : (fewTo d n s).2 = true) (h2 : before (fewTo d n s).1 (listL s n) = true) : fewTo d n (s + 1) = fewTo d n s := by simp only [fewTo, fewStep]; rw [h1, h2]; rfl
theorem zGe {d : Nat → Bool} {n s : Nat} (h1 : (fewTo d n s).2 = false ∨ before (fewTo d n s).1 (listL s n) = false) (h2 : d s = true) : fewTo d n (s + 1) = (listL s n, true) := by
  simp only [fewTo, fewStep]; rw [if_neg (by rcases h1 with h | h <;> simp [h]), if_pos h2]
theorem zIv {d : Nat → Bool} {n s : Nat} (h1 : (fewTo d n s).2 = false ∨ before (fewTo d n s).1 (listL s n) = false) (h2 : d s = false) : fewTo d n (s + 1) = fewTo d n s := by
  simp only [fewTo, fewStep]; rw [if_neg (by rcases h1 with h | h <;> simp [h]), if_neg (by simp [h2])]
theorem few_len (d : Nat → Bool) (n : Nat) : ∀ s, (fewTo d n s).1.length ≤ n
  | 0 => by simp [fewTo]
  | s + 1 => by have := few_len d n s; have := zDx s n; simp only [fewTo, fewStep]; split <;> (try split) <;> assumption
theorem zCm {v1 v2 : Value} {b1 b2 : Bool} {z1 z2 : Int} (h1 : v1 = v2) (h2 : b1 = b2) (h3 : z1 = z2) : [v1, Value.bool b1, Value.int .i64 z1] = [v2, Value.bool b2, Value.int .i64 z2] := by rw [h1, h2, h3]
theorem zB7 {a b : List Int} (h1 : a.length ≤ b.length → ¬ (b.length : Int) > a.length) (h2 : a.length = b.length → less a b = false) : before a b = false := by
  unfold before
  rw [Bool.or_eq_false_iff, Bool.and_eq_false_iff]
  refine ⟨by simp; omega, ?_⟩
  by_cases e : a.length = b.length
  · exact .inr (h2 e)
  · left; simpa using e
theorem c61 {w0 w : World} {F : List (Nat × Obj)} (x n : Nat) (hx : x < 1000) (hn : n ≤ 40) (hs : St w0 w F) :
  Con Tryz.prog 61 [.int .i64 x, .int .i64 n] w fun v w' => ∃ B, Rt.Own v 3 1 (listL x n).length (iv (listL x n)) B ∧ St w0 w' (B ++ F) := by
  refine zAo (n := 21) func61 rfl rfl (zNl rfl) ?_
  refine zAf (fun K2 g7 => (zAb (zBi rfl rfl (zAd (zAc (g7 _ _ (zAf (fun K4 g8 => (zAf (fun K6 g9 => (zAb (zA6 rfl rfl (w_p (zBy (v := _) rfl rfl) rfl ?_)))))))))))))
  refine zAd (zAc (g9 _ _ (zAq ?_)))
  refine zB6 [4,5,7,8,9,10,11,12,13,14,15,16,17,18,19] [4,7] (fun k vs w => ∃ (i : Nat) (v : Value) (B : List (Nat × Obj)), vs = [v, .int .i64 i] ∧ i ≤ n ∧ k = n - i ∧ Rt.Own v 3 1 (listL x i).length (iv (listL x i)) B ∧ St w0 w (B ++ F)) (n) ?_ ?_
  ·
   exact ⟨0, _, [], rfl, by omega, by omega, zEm 3 1, hs⟩
  intro k vs μ w9 hI K8 g5
  obtain ⟨i, v, B, rfl, hia, rfl, hown, hs⟩ := hI
  have hll := zDx x i
  refine zAf (fun gk ga => (zAb (w_p (zCp rfl rfl rfl rfl) rfl (zAd (zAc (ga _ _ (zAf (fun gm gc => (zAr rfl rfl (fun g0 => ?_) (fun g0 => ?_))))))))))
  ·
   try simp only [zS] at g0
   refine zAn (zAc (gc _ _ (zAf (fun gn g6 => (zAq ?_)))))
   refine zAf (fun go gd => (zAb (zA6 rfl rfl (zBw rfl rfl (zAd (zAc (gd _ _ (zAf (fun gp ge => (zAb (zA6 rfl rfl (zA6 rfl rfl (w_p (y_shr (x := x) (y := i) rfl rfl rfl rfl (by first | rfl | omega) (by first | rfl | omega) (by first | omega | exact zCr (by omega))) rfl ?_)))))))))))))
   refine w_p (show Yd _ _ _ _ (.int .i64 ((bit x i : Nat) : Int)) from (y_and (x := _) (y := 1) rfl rfl rfl rfl rfl rfl (by first | omega | exact zCr (by omega)) (by first | omega | exact zCr (by omega)))) rfl ?_
   refine w_p (zCa rfl rfl rfl rfl) rfl (zAd (zAc (ge _ _ (zAr rfl rfl (fun g3 => ?_) (fun g3 => ?_)))))
   ·
    try simp only [zS] at g3
    refine zAb (w_p (zBy (v := v) rfl rfl) rfl (zA6 rfl rfl (zAu (ps := [(0, _)]) (pv := [(0, .int _ _)]) (cs := [_]) zAa rfl rfl (fun w => Try_UM_fb3 _ w) hs (fun gq gt gf => ?_))))
    refine zC7 (X := (_ :: [])) (B := B) (rows := [[_]]) (sz := 1) (bytes := 8) zAa underlying22 zC3 rfl rfl rfl rfl rfl rfl rfl rfl rfl gf hown (zBb (i := 0) rfl (by simp) rfl) rfl (by simp) (by simp [Value.oneCell']) (by simp only [maxLen]; omega) (by omega) (fun gg gu gh gi g4 => ?_)
    replace g4 := (show St _ _ (_ :: gh ++ (F)) from g4)
    refine w_p (zCu (v := gg) rfl rfl) rfl (zAd (zAi (zAc (g6 _ _ (zAb (w_p (zBo rfl rfl rfl rfl (by omega) (by omega)) rfl (zA6 rfl rfl (zAd (zAc (g5 _ _ (nxI (n - (i + 1)) (by omega) ?_)))))))))))
    exact ⟨i + 1, _,_, rfl, by omega, rfl, by rw [zGd (by assumption)]; exact zFi gi, g4.tail⟩
   try simp only [zS] at g3
   refine zAn (zAi (zAc (g6 _ _ (zAb (w_p (zBo rfl rfl rfl rfl (by omega) (by omega)) rfl (zA6 rfl rfl (zAd (zAc (g5 _ _ (nxI (n - (i + 1)) (by omega) ?_))))))))))
   exact ⟨i + 1, v, B, rfl, by omega, rfl, by rw [zHq (by assumption)]; exact hown, hs⟩
  try simp only [zS] at g0
  refine zBt (zAj (zAj (zAv (zAc (g8 _ _ (zAf (fun gv gj => (zAb (w_p (zBy (v := v) rfl rfl) rfl (w_p (zCu (v := v) rfl rfl) rfl ?_))))))))))
  refine zAd (zAc (gj _ _ (zA8 (zBa (l := [.tmp 4]) (vs := [_]) rfl ⟨⟨rfl, show _ = (v : Value) from rfl⟩, trivial⟩ ?_))))
  have hin : i = n := by omega
  subst hin
  exact ⟨B, hown, hs⟩

theorem c123 {w0 w : World} {F : List (Nat × Obj)} (x : Int) (hs : St w0 w F) :
  Con Tryz.prog 123 [.int .i64 x] w fun v w' => v = .bool false ∧ St w0 w' F := by
  refine zAo (n := 6) func123 rfl rfl (zNl rfl) ?_
  refine zAf (fun K2 g0 => (zAb (zBi rfl rfl (zAd (zAc (g0 _ _ (zAf (fun K4 g3 => (zAb (zA6 rfl rfl (zA6 rfl rfl (w_p (zCs rfl rfl rfl rfl) rfl ?_))))))))))))
  refine w_p (zAs rfl rfl) rfl (zAd (zAc (g3 _ _ (zA8 (zBa (l := [.tmp 2]) (vs := [_]) rfl ⟨⟨rfl, (rfl : _ = Value.bool _)⟩, trivial⟩ ?_)))))
  exact ⟨by simp [retV], hs⟩

theorem c110 {w0 w : World} {F : List (Nat × Obj)} (a b : Int) (hs : St w0 w F) :
  Con Tryz.prog 110 [.int .i64 a, .int .i64 b] w fun v w' => v = .int .i64 (cmpI a b) ∧ St w0 w' F := by
  refine zAo (n := 20) func110 rfl rfl (zNl rfl) ?_
  refine zAf (fun K2 g5 => (zAb (zBi rfl rfl (zAd (zAc (g5 _ _ (zAf (fun K4 g6 => (zAb (zA6 rfl rfl (zCo zAa call123 rfl rfl rfl rfl (c123 _ hs) (fun w6 g7 => ?_))))))))))))
  refine w_p (zAs rfl rfl) rfl (zAd (zAc (g6 _ _ (zAf (fun K9 g8 => (zAb (zA6 rfl rfl (zCo zAa call123 rfl rfl rfl rfl (c123 _ g7) (fun gm g0 => ?_)))))))))
  refine w_p (zAs rfl rfl) rfl (zAd (zAc (g8 _ _ (zAf (fun gn g9 => (zAf (fun go ga => (zAb (w_p (zAt rfl rfl) rfl (zAd (zAc (ga _ _ (zBs rfl rfl ?_)))))))))))))
  refine zAn (zAc (g9 _ _ (zAf (fun gp gc => (zAf (fun gq gd => (zAb (w_p (zAt rfl rfl) rfl (zAd (zAc (gd _ _ (zBs rfl rfl ?_))))))))))))
  refine zAn (zAc (gc _ _ (zAf (fun gt ge => (zAf (fun gu gf => (zAb (zA6 rfl rfl (zA6 rfl rfl (w_p (zCp rfl rfl rfl rfl) rfl (zAd (zAc (gf _ _ (zAr rfl rfl (fun g3 => ?_) (fun g3 => ?_)))))))))))))))
  ·
   try simp only [zS] at g3
   refine zAf (fun gv gg => (zAb (zBi rfl rfl (zAd (zAc (gg _ _ (zA8 (zAl (zBa (l := [.tmp 4]) (vs := [_]) rfl ⟨⟨rfl, (rfl : _ = Value.int _ _)⟩, trivial⟩ ?_)))))))))
   exact ⟨congrArg (Value.int .i64) (by unfold cmpI; (repeat' split) <;> first | rfl | omega), g0⟩
  try simp only [zS] at g3
  refine zAn (zAc (ge _ _ (zAf (fun gw gh => (zAf (fun gx gi => (zAb (zA6 rfl rfl (zA6 rfl rfl (w_p (zEf rfl rfl rfl rfl) rfl (zAd (zAc (gi _ _ (zAr rfl rfl (fun g4 => ?_) (fun g4 => ?_)))))))))))))))
  ·
   try simp only [zS] at g4
   refine zAf (fun gy gj => (zAb (zBi rfl rfl (zAd (zAc (gj _ _ (zA8 (zAl (zBa (l := [.tmp 4]) (vs := [_]) rfl ⟨⟨rfl, (rfl : _ = Value.int _ _)⟩, trivial⟩ ?_)))))))))
   exact ⟨congrArg (Value.int .i64) (by unfold cmpI; (repeat' split) <;> first | rfl | omega), g0⟩
  try simp only [zS] at g4
  refine zAn (zAc (gh _ _ (zAf (fun gz gk => (zAb (zBi rfl rfl (zAd (zAc (gk _ _ (zA8 (zBa (l := [.tmp 4]) (vs := [_]) rfl ⟨⟨rfl, (rfl : _ = Value.int _ _)⟩, trivial⟩ ?_)))))))))))
  exact ⟨congrArg (Value.int .i64) (by unfold cmpI; (repeat' split) <;> first | rfl | omega), g0⟩

theorem c75 {w0 w : World} {F : List (Nat × Obj)} (aa ab : Option Addr) (a b : List Int) (ca cb : Nat) (hla : a.length ≤ 9223372036854775807) (hlb : b.length ≤ 9223372036854775807) (ha : Sl w0 F aa 1 (a.map fun x => [Value.int .i64 x])) (hb : Sl w0 F ab 1 (b.map fun x => [Value.int .i64 x])) (hs : St w0 w F) :
  Con Tryz.prog 75 [.slice aa a.length ca, .slice ab b.length cb] w fun v w' => (∃ z, v = .int .i64 z ∧ decide (0 < z) = less b a) ∧ St w0 w' F := by
  refine zAo (n := 36) func75 rfl rfl (zNl rfl) ?_
  refine zAf (fun K2 g7 => (zAb (zBi rfl rfl (zAd (zAc (g7 _ _ (zAf (fun K4 g8 => (zAf (fun K6 g9 => (zAb (w_p (zAx rfl rfl) rfl ?_))))))))))))
  refine w_p (zBc underlying22 rfl rfl) rfl (w_p (zBy (v := _) rfl rfl) rfl (zAd (zAc (g9 _ _ (zAq ?_)))))
  refine zB6 [4,5,6,7,8,11,12,13,14,15,16,17,18,19,20,21,22,23,24,25,26,27,28,29,30] [11] (fun k vs w => ∃ i : Nat, vs = [.int .i64 i] ∧ i ≤ a.length ∧ i ≤ b.length ∧ k = a.length - i ∧ a.take i = b.take i ∧ St w0 w F) (a.length) ?_ ?_
  ·
   exact ⟨0, rfl, by omega, by omega, by omega, rfl, hs⟩
  intro k vs μ w9 hI K8 ga
  obtain ⟨i, rfl, hia, hib, rfl, hpre, hs⟩ := hI
  refine zAf (fun gu gc => (zAb (w_p (zCp rfl rfl rfl rfl) rfl (zAd (zAc (gc _ _ (zAf (fun gv gd => (zAr rfl rfl (fun g3 => ?_) (fun g3 => ?_))))))))))
  ·
   try simp only [zS] at g3
   refine zAn (zAc (gd _ _ (zAf (fun gw ge => (zAq ?_)))))
   refine zAf (fun gx gf => ?_)
   have hia2 : i < a.length := by omega
   obtain ⟨ba, oa, rfl, hxa⟩ := zCx ha hia2
   refine zAb (zA6 rfl rfl (w_p (zA7 underlying22 sizeOf3 rfl rfl rfl rfl (i := _) rfl (by omega)) rfl (w_p (zAg isAgg3 hs rfl rfl hxa) rfl (zBw rfl rfl (zBw rfl rfl (zAd (zAc (gf _ _ (zAf (fun gy gg => (zAf (fun gz gh => (zAb (zA6 rfl rfl ?_))))))))))))))
   refine w_p (zAx rfl rfl) rfl (w_p (zBc underlying22 rfl rfl) rfl (w_p (zGw rfl rfl rfl rfl) rfl (zAd (zAc (gh _ _ (zAr rfl rfl (fun g4 => ?_) (fun g4 => ?_)))))))
   ·
    try simp only [zS] at g4
    refine zAf (fun gA gi => (zAb (zBi rfl rfl (zAd (zAc (gi _ _ (zA8 (zAl (zA9 (zAl (zAl (zA9 (zAl (zBa (l := [.tmp 4]) (vs := [_]) rfl ⟨⟨rfl, (rfl : _ = Value.int _ _)⟩, trivial⟩ ?_))))))))))))))
    first
      | exact ⟨⟨_, rfl, zJb hpre hia2 hib2 (by assumption)⟩, hs⟩
      | exact ⟨⟨_, rfl, by rw [zDd hpre.symm (by omega) (by omega)]; rfl⟩, hs⟩
      | exact ⟨⟨_, rfl, by rw [zD8 hpre.symm hib (by omega)]; rfl⟩, hs⟩
   try simp only [zS] at g4
   refine zAn (zAc (gg _ _ (zAf (fun gB gj => ?_))))
   have hib2 : i < b.length := by omega
   obtain ⟨bb, ob, rfl, hxb⟩ := zCx hb hib2
   refine zAb (w_p (zAx rfl rfl) rfl (zA6 rfl rfl (w_p (zA7 underlying22 sizeOf3 rfl rfl rfl rfl (i := _) rfl (by omega)) rfl (w_p (zAg isAgg3 hs rfl rfl hxb) rfl (zBw rfl rfl (zAd (zAc (gj _ _ (zAf (fun gC gk => (zAb (zA6 rfl rfl ?_))))))))))))
   refine zA6 rfl rfl (zCo zAa call110 rfl rfl rfl rfl (c110 _ _ hs) (fun gD g0 => ?_))
   refine zBw rfl rfl (zAd (zAc (gk _ _ (zAf (fun gE gm => (zAb (zA6 rfl rfl (w_p (zCs rfl rfl rfl rfl) rfl (zAd (zAc (gm _ _ (zAr rfl rfl (fun g5 => ?_) (fun g5 => ?_)))))))))))))
   ·
    try simp only [zS] at g5
    refine zAf (fun gF gn => (zAb (zA6 rfl rfl (zBw rfl rfl (zAd (zAc (gn _ _ (zA8 (zA9 (zAl (zAl (zA9 (zAl (zBa (l := [.tmp 4]) (vs := [_]) rfl ⟨⟨rfl, (rfl : _ = Value.int _ _)⟩, trivial⟩ ?_))))))))))))))
    first
      | exact ⟨⟨_, rfl, zJb hpre hia2 hib2 (by assumption)⟩, g0⟩
      | exact ⟨⟨_, rfl, by rw [zDd hpre.symm (by omega) (by omega)]; rfl⟩, g0⟩
      | exact ⟨⟨_, rfl, by rw [zD8 hpre.symm hib (by omega)]; rfl⟩, g0⟩
   try simp only [zS] at g5
   refine zAn (zAi (zAc (ge _ _ (zAb (w_p (zBo rfl rfl rfl rfl (by omega) (by omega)) rfl (zA6 rfl rfl (zAd (zAc (ga _ _ (nxI (a.length - (i + 1)) (by omega) ?_))))))))))
   exact ⟨i + 1, rfl, by omega, by omega, rfl, zIt hpre (by omega) (by omega) (cmp_zero (by assumption)), g0⟩
  try simp only [zS] at g3
  refine zBt (zAj (zAj (zAv (zAc (g8 _ _ (zAf (fun gG go => (zAf (fun gH gp => (zAb (w_p (zAx rfl rfl) rfl ?_)))))))))))
  refine w_p (zBc underlying22 rfl rfl) rfl (w_p (zAx rfl rfl) rfl (w_p (zBc underlying22 rfl rfl) rfl (w_p (zCp rfl rfl rfl rfl) rfl (zAd (zAc (gp _ _ (zAr rfl rfl (fun g6 => ?_) (fun g6 => ?_))))))))
  ·
   try simp only [zS] at g6
   refine zAf (fun gI gq => (zAb (zBi rfl rfl (zAd (zAc (gq _ _ (zA8 (zAl (zBa (l := [.tmp 4]) (vs := [_]) rfl ⟨⟨rfl, (rfl : _ = Value.int _ _)⟩, trivial⟩ ?_)))))))))
   first
     | exact ⟨⟨_, rfl, zJb hpre hia2 hib2 (by assumption)⟩, hs⟩
     | exact ⟨⟨_, rfl, by rw [zDd hpre.symm (by omega) (by omega)]; rfl⟩, hs⟩
     | exact ⟨⟨_, rfl, by rw [zD8 hpre.symm hib (by omega)]; rfl⟩, hs⟩
  try simp only [zS] at g6
  refine zAn (zAc (go _ _ (zAf (fun gJ gt => (zAb (zBi rfl rfl (zAd (zAc (gt _ _ (zA8 (zBa (l := [.tmp 4]) (vs := [_]) rfl ⟨⟨rfl, (rfl : _ = Value.int _ _)⟩, trivial⟩ ?_)))))))))))
  first
    | exact ⟨⟨_, rfl, zJb hpre hia2 hib2 (by assumption)⟩, hs⟩
    | exact ⟨⟨_, rfl, by rw [zDd hpre.symm (by omega) (by omega)]; rfl⟩, hs⟩
    | exact ⟨⟨_, rfl, by rw [zD8 hpre.symm hib (by omega)]; rfl⟩, hs⟩

theorem _root_.Go.Rt.Sl.top {w0 : World} {B F : List (Nat × Obj)} {a : Option Addr} {sz : Nat} {rows : List (List Value)} (h : Sl w0 B a sz rows) : Sl w0 (B ++ F) a sz rows := h.mono fun _ h => h.front
theorem c58 {w0 w : World} {M F : List (Nat × Obj)} (n : Nat) (hn : n ≤ 4) (fv : Value) (d : Nat → Bool) (I : List (Nat × Obj) → Prop) (hd : ∀ (s : Nat) (M X : List (Nat × Obj)) (w : World), s < 1 <<< n → I M → St w0 w (X ++ (M ++ F)) → FCon Tryz.prog fv [.int .i64 (s : Int)] w fun v w' => v = .bool (d s) ∧ ∃ M', I M' ∧ St w0 w' (X ++ (M' ++ F))) (hI0 : I M) (hs : St w0 w (M ++ F)) :
  Con Tryz.prog 58 [.int .i64 (n : Int), fv] w fun v w' => ∃ B M' a c, v = .slice a (fewest d n).1.length c ∧ Sl w0 B a 1 ((fewest d n).1.map fun x => [Value.int .i64 x]) ∧ I M' ∧ St w0 w' (B ++ (M' ++ F)) := by
  refine zAo (n := 43) func58 rfl rfl (zNl rfl) ?_
  have hsh := shl_16 hn
  refine zAf (fun K2 gk => (zAb (zBi rfl rfl (zAd (zAc (gk _ _ (zAf (fun K4 gm => (zAb (zBi rfl rfl (zAd (zAc (gm _ _ (zAf (fun K6 gn => (zAf (fun K8 go => (zAb (zA6 rfl rfl ?_)))))))))))))))))))
  refine w_p (y_shl (x := 1) (y := n) rfl rfl rfl rfl rfl (by first | rfl | omega) (by first | omega | exact zCr (by omega)) (by first | omega | exact zCr (by omega))) rfl ?_
  refine w_p (zBy (v := _) rfl rfl) rfl (zAd (zAc (go _ _ (zAq ?_))))
  refine zB6 [4,5,6,7,10,11,12,13,14,15,16,17,18,19,20,21,22,23,24,25,26,27,28,29,30,31,32,33,34,35,36,37,38,39,40,41] [4,5,10] (fun k vs w => ∃ (s : Nat) (av : Option Addr) (cv : Nat) (B M : List (Nat × Obj)), vs = [.slice av (fewTo d n s).1.length cv, .bool (fewTo d n s).2, .int .i64 s] ∧ s ≤ 1 <<< n ∧ k = (1 <<< n) - s ∧ Sl w0 B av 1 ((fewTo d n s).1.map fun x => [Value.int .i64 x]) ∧ I M ∧ St w0 w (B ++ (M ++ F))) (1 <<< n) ?_ ?_
  ·
   exact ⟨0, _,_, [], M, rfl, by omega, by omega, Sl.nil _ _, hI0, hs⟩
  intro k vs μ gz hI gA g6
  clear hs
  obtain ⟨s, av, cv, B, M, rfl, hba, rfl, hslv, hIM, hs⟩ := hI
  generalize hfd : (fewTo d n s).2 = fd
  refine zAf (fun gB gp => (zAb (w_p (zCp rfl rfl rfl rfl) rfl (zAd (zAc (gp _ _ (zAf (fun gC gq => (zAr rfl rfl (fun ga => ?_) (fun ga => ?_))))))))))
  ·
   try simp only [zS] at ga
   refine zAn (zAc (gq _ _ (zAf (fun gD g7 => (zAq ?_)))))
   refine zAf (fun gE gt => (zAb (zA6 rfl rfl (zBw rfl rfl (zAd (zAc (gt _ _ (zAf (fun gF gu => (zAb (zA6 rfl rfl (zA6 rfl rfl (zA4 zAa call61 rfl rfl rfl rfl (c61 _ _ (by omega) (by omega) hs) ?_)))))))))))))
   rintro _ gG ⟨B1, hown1, g0⟩
   replace g0 := (show St _ _ (B1 ++ (B ++ (M ++ (F)))) from g0)
   obtain ⟨a1, c1, rfl, hsl1, _, _⟩ := zFj (w0 := w0) hown1
   have hle1 := zDx s n
   have hle2 := few_len d n s
   refine w_p (zBz rfl rfl) rfl (zAd (zAc (gu _ _ (zAf (fun gH gc => (zAf (fun gI g9 => (zAb (w_p (zAt rfl rfl) rfl (w_p (zAt rfl rfl) rfl ?_))))))))))
   refine zB5 (fun gd => ?_) (fun gd => ?_)
   ·
    subst gd
    refine w_y rfl rfl rfl (zAx rfl rfl) rfl ?_
    refine w_y rfl rfl rfl (zBc underlying22 rfl rfl) rfl ?_
    refine w_y rfl rfl rfl (zAx rfl rfl) rfl ?_
    refine w_y rfl rfl rfl (zBc underlying22 rfl rfl) rfl ?_
    refine w_y rfl rfl rfl (zEf rfl rfl rfl rfl) rfl ?_
    refine w_y rfl rfl rfl (zAt rfl rfl) rfl ?_
    refine zB5 (fun ge => ?_) (fun ge => ?_)
    ·
     try simp only [zS] at ge
     refine zAm rfl rfl rfl ?_
     refine zAm rfl rfl rfl ?_
     refine zAm rfl rfl rfl ?_
     refine zAm rfl rfl rfl ?_
     refine zAm rfl rfl rfl ?_
     refine zAm rfl rfl rfl ?_
     refine zBd rfl rfl rfl ?_
     refine zBd rfl rfl rfl ?_
     refine zBd rfl rfl rfl ?_
     refine zBd rfl rfl rfl ?_
     refine zAm rfl rfl rfl ?_
     refine w_y rfl rfl rfl (zA5 (v := _) rfl rfl rfl rfl) rfl ?_
     refine w_p (zA5 (v := .bool _) rfl rfl rfl rfl) rfl (zAd (zAc (g9 _ _ (zDb rfl rfl ?_))))
     refine zBt (zAj (zAv (zAc (g7 _ _ (zAb (w_p (zBo rfl rfl rfl rfl (by omega) (by omega)) rfl (zA6 rfl rfl (zAd (zAc (g6 _ _ (nxI ((1 <<< n) - (s + 1)) (by omega) ?_)))))))))))
     first
       | (have hq := zDn hfd (by unfold before; simp; omega)
          exact ⟨s + 1, av, cv, B1 ++ B, M, zCm (by rw [hq] <;> rfl) (by rw [hq, hfd] <;> rfl) rfl, by omega, rfl, by rw [hq]; exact hslv.app, hIM, (by rw [List.append_assoc]; exact g0)⟩)
       | (have hq := zDn hfd (by unfold before; rw [Bool.or_eq_true, Bool.and_eq_true]; exact .inr ⟨by simp; omega, by rw [← hz]; simp; omega⟩)
          exact ⟨s + 1, av, cv, B1 ++ B, M, zCm (by rw [hq] <;> rfl) (by rw [hq, hfd] <;> rfl) rfl, by omega, rfl, by rw [hq]; exact hslv.app, hIM, (by rw [List.append_assoc]; exact g0)⟩)
       | (have hq := zGe (d := d) (n := n) (s := s) (by first | exact .inl hfd | exact .inr (zB7 (by omega) (by omega)) | exact .inr (zB7 (by omega) (fun e => by rw [← hz]; exact decide_eq_false (by omega)))) (by assumption)
          exact ⟨s + 1, a1, c1, B1 ++ B, M2, zCm (by rw [hq] <;> rfl) (by rw [hq] <;> rfl) rfl, by omega, rfl, by rw [hq]; exact hsl1.top, hIM2, (by rw [List.append_assoc]; exact g0)⟩)
       | (have hq := zIv (d := d) (n := n) (s := s) (by first | exact .inl hfd | exact .inr (zB7 (by omega) (by omega)) | exact .inr (zB7 (by omega) (fun e => by rw [← hz]; exact decide_eq_false (by omega)))) (by assumption)
          exact ⟨s + 1, av, cv, B1 ++ B, M2, zCm (by rw [hq] <;> rfl) (by rw [hq, hfd] <;> rfl) rfl, by omega, rfl, by rw [hq]; exact hslv.app, hIM2, (by rw [List.append_assoc]; exact g0)⟩)
    try simp only [zS] at ge
    refine w_y rfl rfl rfl (zAx rfl rfl) rfl ?_
    refine w_y rfl rfl rfl (zBc underlying22 rfl rfl) rfl ?_
    refine w_y rfl rfl rfl (zAx rfl rfl) rfl ?_
    refine w_y rfl rfl rfl (zBc underlying22 rfl rfl) rfl ?_
    refine w_y rfl rfl rfl (zCa rfl rfl rfl rfl) rfl ?_
    refine w_y rfl rfl rfl (zAt rfl rfl) rfl ?_
    refine zB5 (fun gf => ?_) (fun gf => ?_)
    ·
     try simp only [zS] at gf
     refine w_y rfl rfl rfl (zAx rfl rfl) rfl ?_
     refine w_y rfl rfl rfl (zAx rfl rfl) rfl ?_
     refine zA4 (zAh rfl rfl rfl) call75 rfl rfl rfl rfl (c75 _ _ _ _ _ _ (by omega) (by omega) hsl1.top hslv.top.app g0) ?_
     rintro _ gJ ⟨⟨z, rfl, hz⟩, g8⟩
     refine w_y rfl rfl rfl (zEf rfl rfl rfl rfl) rfl ?_
     refine w_y rfl rfl rfl (zA5 (v := .bool _) rfl rfl rfl rfl) rfl ?_
     refine w_y rfl rfl rfl (zBg (v := .bool _) rfl rfl rfl rfl) rfl ?_
     refine w_p (zA5 (v := .bool _) rfl rfl rfl rfl) rfl (zAd (zAc (g9 _ _ (zAr rfl rfl (fun gg => ?_) (fun gg => ?_)))))
     ·
      try simp only [zS] at gg
      refine zBt (zAj (zAv (zAc (g7 _ _ (zAb (w_p (zBo rfl rfl rfl rfl (by omega) (by omega)) rfl (zA6 rfl rfl (zAd (zAc (g6 _ _ (nxI ((1 <<< n) - (s + 1)) (by omega) ?_)))))))))))
      first
        | (have hq := zDn hfd (by unfold before; simp; omega)
           exact ⟨s + 1, av, cv, B1 ++ B, M, zCm (by rw [hq] <;> rfl) (by rw [hq, hfd] <;> rfl) rfl, by omega, rfl, by rw [hq]; exact hslv.app, hIM, (by rw [List.append_assoc]; exact g8)⟩)
        | (have hq := zDn hfd (by unfold before; rw [Bool.or_eq_true, Bool.and_eq_true]; exact .inr ⟨by simp; omega, by rw [← hz]; simp; omega⟩)
           exact ⟨s + 1, av, cv, B1 ++ B, M, zCm (by rw [hq] <;> rfl) (by rw [hq, hfd] <;> rfl) rfl, by omega, rfl, by rw [hq]; exact hslv.app, hIM, (by rw [List.append_assoc]; exact g8)⟩)
        | (have hq := zGe (d := d) (n := n) (s := s) (by first | exact .inl hfd | exact .inr (zB7 (by omega) (by omega)) | exact .inr (zB7 (by omega) (fun e => by rw [← hz]; exact decide_eq_false (by omega)))) (by assumption)
           exact ⟨s + 1, a1, c1, B1 ++ B, M2, zCm (by rw [hq] <;> rfl) (by rw [hq] <;> rfl) rfl, by omega, rfl, by rw [hq]; exact hsl1.top, hIM2, (by rw [List.append_assoc]; exact g8)⟩)
        | (have hq := zIv (d := d) (n := n) (s := s) (by first | exact .inl hfd | exact .inr (zB7 (by omega) (by omega)) | exact .inr (zB7 (by omega) (fun e => by rw [← hz]; exact decide_eq_false (by omega)))) (by assumption)
           exact ⟨s + 1, av, cv, B1 ++ B, M2, zCm (by rw [hq] <;> rfl) (by rw [hq, hfd] <;> rfl) rfl, by omega, rfl, by rw [hq]; exact hslv.app, hIM2, (by rw [List.append_assoc]; exact g8)⟩)
     try simp only [zS] at gg
     refine zAn (zAc (gc _ _ (zAf (fun gK gv => (zAb (w_p (zBy (v := fv) rfl rfl) rfl (zA6 rfl rfl (zD0 zAa rfl rfl rfl rfl (hd s M (B1 ++ B) _ (by omega) hIM (St.cast (by simp only [List.append_assoc]) g8)) ?_))))))))
     rintro _ gL ⟨rfl, M2, hIM2, g3⟩
     rw [List.append_assoc] at g3
     refine zAd (zAc (gv _ _ (zAr rfl rfl (fun gh => ?_) (fun gh => ?_))))
     ·
      try simp only [zS] at gh
      refine zAb (w_p (zAx rfl rfl) rfl (w_p (zBz rfl rfl) rfl (zBi rfl rfl (zAd (zAi (zAc (g7 _ _ (zAb (w_p (zBo rfl rfl rfl rfl (by omega) (by omega)) rfl ?_)))))))))
      refine zA6 rfl rfl (zAd (zAc (g6 _ _ (nxI ((1 <<< n) - (s + 1)) (by omega) ?_))))
      first
        | (have hq := zDn hfd (by unfold before; simp; omega)
           exact ⟨s + 1, av, cv, B1 ++ B, M, zCm (by rw [hq] <;> rfl) (by rw [hq, hfd] <;> rfl) rfl, by omega, rfl, by rw [hq]; exact hslv.app, hIM, (by rw [List.append_assoc]; exact g3)⟩)
        | (have hq := zDn hfd (by unfold before; rw [Bool.or_eq_true, Bool.and_eq_true]; exact .inr ⟨by simp; omega, by rw [← hz]; simp; omega⟩)
           exact ⟨s + 1, av, cv, B1 ++ B, M, zCm (by rw [hq] <;> rfl) (by rw [hq, hfd] <;> rfl) rfl, by omega, rfl, by rw [hq]; exact hslv.app, hIM, (by rw [List.append_assoc]; exact g3)⟩)
        | (have hq := zGe (d := d) (n := n) (s := s) (by first | exact .inl hfd | exact .inr (zB7 (by omega) (by omega)) | exact .inr (zB7 (by omega) (fun e => by rw [← hz]; exact decide_eq_false (by omega)))) (by assumption)
           exact ⟨s + 1, a1, c1, B1 ++ B, M2, zCm (by rw [hq] <;> rfl) (by rw [hq] <;> rfl) rfl, by omega, rfl, by rw [hq]; exact hsl1.top, hIM2, (by rw [List.append_assoc]; exact g3)⟩)
        | (have hq := zIv (d := d) (n := n) (s := s) (by first | exact .inl hfd | exact .inr (zB7 (by omega) (by omega)) | exact .inr (zB7 (by omega) (fun e => by rw [← hz]; exact decide_eq_false (by omega)))) (by assumption)
           exact ⟨s + 1, av, cv, B1 ++ B, M2, zCm (by rw [hq] <;> rfl) (by rw [hq, hfd] <;> rfl) rfl, by omega, rfl, by rw [hq]; exact hslv.app, hIM2, (by rw [List.append_assoc]; exact g3)⟩)
     try simp only [zS] at gh
     refine zAn (zAi (zAc (g7 _ _ (zAb (w_p (zBo rfl rfl rfl rfl (by omega) (by omega)) rfl (zA6 rfl rfl (zAd (zAc (g6 _ _ (nxI ((1 <<< n) - (s + 1)) (by omega) ?_))))))))))
     first
       | (have hq := zDn hfd (by unfold before; simp; omega)
          exact ⟨s + 1, av, cv, B1 ++ B, M, zCm (by rw [hq] <;> rfl) (by rw [hq, hfd] <;> rfl) rfl, by omega, rfl, by rw [hq]; exact hslv.app, hIM, (by rw [List.append_assoc]; exact g3)⟩)
       | (have hq := zDn hfd (by unfold before; rw [Bool.or_eq_true, Bool.and_eq_true]; exact .inr ⟨by simp; omega, by rw [← hz]; simp; omega⟩)
          exact ⟨s + 1, av, cv, B1 ++ B, M, zCm (by rw [hq] <;> rfl) (by rw [hq, hfd] <;> rfl) rfl, by omega, rfl, by rw [hq]; exact hslv.app, hIM, (by rw [List.append_assoc]; exact g3)⟩)
       | (have hq := zGe (d := d) (n := n) (s := s) (by first | exact .inl hfd | exact .inr (zB7 (by omega) (by omega)) | exact .inr (zB7 (by omega) (fun e => by rw [← hz]; exact decide_eq_false (by omega)))) (by assumption)
          exact ⟨s + 1, a1, c1, B1 ++ B, M2, zCm (by rw [hq] <;> rfl) (by rw [hq] <;> rfl) rfl, by omega, rfl, by rw [hq]; exact hsl1.top, hIM2, (by rw [List.append_assoc]; exact g3)⟩)
       | (have hq := zIv (d := d) (n := n) (s := s) (by first | exact .inl hfd | exact .inr (zB7 (by omega) (by omega)) | exact .inr (zB7 (by omega) (fun e => by rw [← hz]; exact decide_eq_false (by omega)))) (by assumption)
          exact ⟨s + 1, av, cv, B1 ++ B, M2, zCm (by rw [hq] <;> rfl) (by rw [hq, hfd] <;> rfl) rfl, by omega, rfl, by rw [hq]; exact hslv.app, hIM2, (by rw [List.append_assoc]; exact g3)⟩)
    try simp only [zS] at gf
    refine zAm rfl rfl rfl ?_
    refine zAm rfl rfl rfl ?_
    refine zAm rfl rfl rfl ?_
    refine zAm rfl rfl rfl ?_
    refine w_y rfl rfl rfl (zBg (v := _) rfl rfl rfl rfl) rfl ?_
    refine w_y rfl rfl rfl (zBg (v := .bool _) rfl rfl rfl rfl) rfl ?_
    refine w_p (zA5 (v := .bool _) rfl rfl rfl rfl) rfl (zAd (zAc (g9 _ _ (zBs rfl rfl ?_))))
    refine zAn (zAc (gc _ _ (zAf (fun gM gw => (zAb (w_p (zBy (v := fv) rfl rfl) rfl (zA6 rfl rfl (zD0 zAa rfl rfl rfl rfl (hd s M (B1 ++ B) _ (by omega) hIM (St.cast (by simp only [List.append_assoc]) g0)) ?_))))))))
    rintro _ gN ⟨rfl, M2, hIM2, g4⟩
    rw [List.append_assoc] at g4
    refine zAd (zAc (gw _ _ (zAr rfl rfl (fun gi => ?_) (fun gi => ?_))))
    ·
     try simp only [zS] at gi
     refine zAb (w_p (zAx rfl rfl) rfl (w_p (zBz rfl rfl) rfl (zBi rfl rfl (zAd (zAi (zAc (g7 _ _ (zAb (w_p (zBo rfl rfl rfl rfl (by omega) (by omega)) rfl ?_)))))))))
     refine zA6 rfl rfl (zAd (zAc (g6 _ _ (nxI ((1 <<< n) - (s + 1)) (by omega) ?_))))
     first
       | (have hq := zDn hfd (by unfold before; simp; omega)
          exact ⟨s + 1, av, cv, B1 ++ B, M, zCm (by rw [hq] <;> rfl) (by rw [hq, hfd] <;> rfl) rfl, by omega, rfl, by rw [hq]; exact hslv.app, hIM, (by rw [List.append_assoc]; exact g4)⟩)
       | (have hq := zDn hfd (by unfold before; rw [Bool.or_eq_true, Bool.and_eq_true]; exact .inr ⟨by simp; omega, by rw [← hz]; simp; omega⟩)
          exact ⟨s + 1, av, cv, B1 ++ B, M, zCm (by rw [hq] <;> rfl) (by rw [hq, hfd] <;> rfl) rfl, by omega, rfl, by rw [hq]; exact hslv.app, hIM, (by rw [List.append_assoc]; exact g4)⟩)
       | (have hq := zGe (d := d) (n := n) (s := s) (by first | exact .inl hfd | exact .inr (zB7 (by omega) (by omega)) | exact .inr (zB7 (by omega) (fun e => by rw [← hz]; exact decide_eq_false (by omega)))) (by assumption)
          exact ⟨s + 1, a1, c1, B1 ++ B, M2, zCm (by rw [hq] <;> rfl) (by rw [hq] <;> rfl) rfl, by omega, rfl, by rw [hq]; exact hsl1.top, hIM2, (by rw [List.append_assoc]; exact g4)⟩)
       | (have hq := zIv (d := d) (n := n) (s := s) (by first | exact .inl hfd | exact .inr (zB7 (by omega) (by omega)) | exact .inr (zB7 (by omega) (fun e => by rw [← hz]; exact decide_eq_false (by omega)))) (by assumption)
          exact ⟨s + 1, av, cv, B1 ++ B, M2, zCm (by rw [hq] <;> rfl) (by rw [hq, hfd] <;> rfl) rfl, by omega, rfl, by rw [hq]; exact hslv.app, hIM2, (by rw [List.append_assoc]; exact g4)⟩)
    try simp only [zS] at gi
    refine zAn (zAi (zAc (g7 _ _ (zAb (w_p (zBo rfl rfl rfl rfl (by omega) (by omega)) rfl (zA6 rfl rfl (zAd (zAc (g6 _ _ (nxI ((1 <<< n) - (s + 1)) (by omega) ?_))))))))))
    first
      | (have hq := zDn hfd (by unfold before; simp; omega)
         exact ⟨s + 1, av, cv, B1 ++ B, M, zCm (by rw [hq] <;> rfl) (by rw [hq, hfd] <;> rfl) rfl, by omega, rfl, by rw [hq]; exact hslv.app, hIM, (by rw [List.append_assoc]; exact g4)⟩)
      | (have hq := zDn hfd (by unfold before; rw [Bool.or_eq_true, Bool.and_eq_true]; exact .inr ⟨by simp; omega, by rw [← hz]; simp; omega⟩)
         exact ⟨s + 1, av, cv, B1 ++ B, M, zCm (by rw [hq] <;> rfl) (by rw [hq, hfd] <;> rfl) rfl, by omega, rfl, by rw [hq]; exact hslv.app, hIM, (by rw [List.append_assoc]; exact g4)⟩)
      | (have hq := zGe (d := d) (n := n) (s := s) (by first | exact .inl hfd | exact .inr (zB7 (by omega) (by omega)) | exact .inr (zB7 (by omega) (fun e => by rw [← hz]; exact decide_eq_false (by omega)))) (by assumption)
         exact ⟨s + 1, a1, c1, B1 ++ B, M2, zCm (by rw [hq] <;> rfl) (by rw [hq] <;> rfl) rfl, by omega, rfl, by rw [hq]; exact hsl1.top, hIM2, (by rw [List.append_assoc]; exact g4)⟩)
      | (have hq := zIv (d := d) (n := n) (s := s) (by first | exact .inl hfd | exact .inr (zB7 (by omega) (by omega)) | exact .inr (zB7 (by omega) (fun e => by rw [← hz]; exact decide_eq_false (by omega)))) (by assumption)
         exact ⟨s + 1, av, cv, B1 ++ B, M2, zCm (by rw [hq] <;> rfl) (by rw [hq, hfd] <;> rfl) rfl, by omega, rfl, by rw [hq]; exact hslv.app, hIM2, (by rw [List.append_assoc]; exact g4)⟩)
   subst gd
   refine zAm rfl rfl rfl ?_
   refine zAm rfl rfl rfl ?_
   refine zAm rfl rfl rfl ?_
   refine zAm rfl rfl rfl ?_
   refine zAm rfl rfl rfl ?_
   refine zAm rfl rfl rfl ?_
   refine zBd rfl rfl rfl ?_
   refine zBd rfl rfl rfl ?_
   refine zBd rfl rfl rfl ?_
   refine zBd rfl rfl rfl ?_
   refine zBd rfl rfl rfl ?_
   refine zBd rfl rfl rfl ?_
   refine zBd rfl rfl rfl ?_
   refine zBd rfl rfl rfl ?_
   refine zBd rfl rfl rfl ?_
   refine zBd rfl rfl rfl ?_
   refine zBd rfl rfl rfl ?_
   refine zAm rfl rfl rfl ?_
   refine w_p (zBg (v := _) rfl rfl rfl rfl) rfl (zAd (zAc (g9 _ _ (zBs rfl rfl ?_))))
   refine zAn (zAc (gc _ _ (zAf (fun gO gx => (zAb (w_p (zBy (v := fv) rfl rfl) rfl (zA6 rfl rfl (zD0 zAa rfl rfl rfl rfl (hd s M (B1 ++ B) _ (by omega) hIM (St.cast (by simp only [List.append_assoc]) g0)) ?_))))))))
   rintro _ gP ⟨rfl, M2, hIM2, g5⟩
   rw [List.append_assoc] at g5
   refine zAd (zAc (gx _ _ (zAr rfl rfl (fun gj => ?_) (fun gj => ?_))))
   ·
    try simp only [zS] at gj
    refine zAb (w_p (zAx rfl rfl) rfl (w_p (zBz rfl rfl) rfl (zBi rfl rfl (zAd (zAi (zAc (g7 _ _ (zAb (w_p (zBo rfl rfl rfl rfl (by omega) (by omega)) rfl ?_)))))))))
    refine zA6 rfl rfl (zAd (zAc (g6 _ _ (nxI ((1 <<< n) - (s + 1)) (by omega) ?_))))
    first
      | (have hq := zDn hfd (by unfold before; simp; omega)
         exact ⟨s + 1, av, cv, B1 ++ B, M, zCm (by rw [hq] <;> rfl) (by rw [hq, hfd] <;> rfl) rfl, by omega, rfl, by rw [hq]; exact hslv.app, hIM, (by rw [List.append_assoc]; exact g5)⟩)
      | (have hq := zDn hfd (by unfold before; rw [Bool.or_eq_true, Bool.and_eq_true]; exact .inr ⟨by simp; omega, by rw [← hz]; simp; omega⟩)
         exact ⟨s + 1, av, cv, B1 ++ B, M, zCm (by rw [hq] <;> rfl) (by rw [hq, hfd] <;> rfl) rfl, by omega, rfl, by rw [hq]; exact hslv.app, hIM, (by rw [List.append_assoc]; exact g5)⟩)
      | (have hq := zGe (d := d) (n := n) (s := s) (by first | exact .inl hfd | exact .inr (zB7 (by omega) (by omega)) | exact .inr (zB7 (by omega) (fun e => by rw [← hz]; exact decide_eq_false (by omega)))) (by assumption)
         exact ⟨s + 1, a1, c1, B1 ++ B, M2, zCm (by rw [hq] <;> rfl) (by rw [hq] <;> rfl) rfl, by omega, rfl, by rw [hq]; exact hsl1.top, hIM2, (by rw [List.append_assoc]; exact g5)⟩)
      | (have hq := zIv (d := d) (n := n) (s := s) (by first | exact .inl hfd | exact .inr (zB7 (by omega) (by omega)) | exact .inr (zB7 (by omega) (fun e => by rw [← hz]; exact decide_eq_false (by omega)))) (by assumption)
         exact ⟨s + 1, av, cv, B1 ++ B, M2, zCm (by rw [hq] <;> rfl) (by rw [hq, hfd] <;> rfl) rfl, by omega, rfl, by rw [hq]; exact hslv.app, hIM2, (by rw [List.append_assoc]; exact g5)⟩)
   try simp only [zS] at gj
   refine zAn (zAi (zAc (g7 _ _ (zAb (w_p (zBo rfl rfl rfl rfl (by omega) (by omega)) rfl (zA6 rfl rfl (zAd (zAc (g6 _ _ (nxI ((1 <<< n) - (s + 1)) (by omega) ?_))))))))))
   first
     | (have hq := zDn hfd (by unfold before; simp; omega)
        exact ⟨s + 1, av, cv, B1 ++ B, M, zCm (by rw [hq] <;> rfl) (by rw [hq, hfd] <;> rfl) rfl, by omega, rfl, by rw [hq]; exact hslv.app, hIM, (by rw [List.append_assoc]; exact g5)⟩)
     | (have hq := zDn hfd (by unfold before; rw [Bool.or_eq_true, Bool.and_eq_true]; exact .inr ⟨by simp; omega, by rw [← hz]; simp; omega⟩)
        exact ⟨s + 1, av, cv, B1 ++ B, M, zCm (by rw [hq] <;> rfl) (by rw [hq, hfd] <;> rfl) rfl, by omega, rfl, by rw [hq]; exact hslv.app, hIM, (by rw [List.append_assoc]; exact g5)⟩)
     | (have hq := zGe (d := d) (n := n) (s := s) (by first | exact .inl hfd | exact .inr (zB7 (by omega) (by omega)) | exact .inr (zB7 (by omega) (fun e => by rw [← hz]; exact decide_eq_false (by omega)))) (by assumption)
        exact ⟨s + 1, a1, c1, B1 ++ B, M2, zCm (by rw [hq] <;> rfl) (by rw [hq] <;> rfl) rfl, by omega, rfl, by rw [hq]; exact hsl1.top, hIM2, (by rw [List.append_assoc]; exact g5)⟩)
     | (have hq := zIv (d := d) (n := n) (s := s) (by first | exact .inl hfd | exact .inr (zB7 (by omega) (by omega)) | exact .inr (zB7 (by omega) (fun e => by rw [← hz]; exact decide_eq_false (by omega)))) (by assumption)
        exact ⟨s + 1, av, cv, B1 ++ B, M2, zCm (by rw [hq] <;> rfl) (by rw [hq, hfd] <;> rfl) rfl, by omega, rfl, by rw [hq]; exact hslv.app, hIM2, (by rw [List.append_assoc]; exact g5)⟩)
  try simp only [zS] at ga
  refine zBt (zAj (zAj (zAv (zAc (gn _ _ (zAf (fun gQ gy => (zAb (w_p (zAx rfl rfl) rfl (w_p (zBz rfl rfl) rfl ?_))))))))))
  refine zAd (zAc (gy _ _ (zA8 (zBa (l := [.tmp 4]) (vs := [_]) rfl ⟨⟨rfl, show _ = (.slice _ _ _ : Value) from rfl⟩, trivial⟩ ?_))))
  have hin : s = 1 <<< n := by omega
  subst hin
  exact ⟨B, M, av, cv, rfl, hslv, hIM, hs⟩

end Go.Proofs.Ut
