/- Own texts of this claim, joined. No conditions. -/
import Derived.Test.YtbikljcddblhjaaGreatHTopFresha
import Derived.Test.YtbikljcddblhjaaGreatHTopFreshb
import Derived.Test.YtbikljcddblhjaaGreatHTopFreshc
import Derived.Test.YtbikljcddblhjaaGreatHTopFreshd
import Derived.Test.YtbikljcddblhjaaGreatHTopFreshe
set_option linter.unusedVariables false
set_option linter.unusedSimpArgs false
set_option maxRecDepth 20000
namespace Go.Proofs.Ut
open Go.Proofs.Tryz
open Go.Rt Go.Rt.Tu
open Go.Rt.Ha (firstE zCf zBu zB1 failE felt spanL upto zC1 listL fewest fewTo bit Bunch before fewStep zCm zDd zCc zCx zC6 zCw zB8)
attribute [local irreducible] WL WC Con Yd At Ats Sl Agree DW
theorem Try_flat77 : flatInts Tryz.prog 77 5 = true := by kernel_rfl
theorem zHx (x0 : Bool) (x1 : Int) (w : World) : (Instr.build 73 [(0, .bool x0),(1, .int .i64 x1)].toArray).run Tryz.prog w = .ok (.agg #[.bool x0, .int .i64 x1]) w := by kernel_rfl
theorem Try_UL_fb3 (x0 : Int) (x1 : Int) (w : World) : (Instr.buildSlice 35 2 [(0, .int .i64 x0),(1, .int .i64 x1)].toArray).run Tryz.prog w = .ok (.slice (some ⟨w.heap.size, 0, none⟩) 2 2) (w.alloc (Go.Rt.blk 3 [.int .i64 x0, .int .i64 x1])) := by kernel_rfl
theorem Try_UL_fb4 (x0 : Bool) (x1 : Int) (x2 : Bool) (x3 : Int) (x4 : Bool) (x5 : Int) (w : World) : (Instr.buildSlice 121 3 [(0, .agg #[.bool x0, .int .i64 x1]),(1, .agg #[.bool x2, .int .i64 x3]),(2, .agg #[.bool x4, .int .i64 x5])].toArray).run Tryz.prog w = .ok (.slice (some ⟨w.heap.size, 0, none⟩) 3 3) (w.alloc (Go.Rt.blk 73 [.bool x0, .int .i64 x1, .bool x2, .int .i64 x3, .bool x4, .int .i64 x5])) := by kernel_rfl
theorem Try_info38 : Tryz.prog.info? 38 = some Tryz.t38 := by kernel_rfl
theorem Try_UL_fb6 (x0 : Int) (x1 : Int) (x2 : Int) (x3 : Int) (w : World) : (Instr.build 38 [(0, .int .i64 x0),(1, .int .i64 x1),(2, .agg #[.int .i64 x2, .int .i64 x3])].toArray).run Tryz.prog w = .ok (.agg #[.int .i64 x0, .int .i64 x1, .int .i64 x2, .int .i64 x3]) w := by kernel_rfl
theorem Try_UL_fb7 (x0 : Go.Fn) (a0 c0 : Array Value) (w : World) : (Instr.build 82 [(0, .func x0 a0 c0)].toArray).run Tryz.prog w = .ok (.agg #[.func x0 a0 c0]) w := by kernel_rfl
theorem Try_UL_fb8 (x0 : Int) (w : World) : (Instr.buildSlice 35 1 [(0, .int .i64 x0)].toArray).run Tryz.prog w = .ok (.slice (some ⟨w.heap.size, 0, none⟩) 1 1) (w.alloc (Go.Rt.blk 3 [.int .i64 x0])) := by kernel_rfl
theorem upto_snoc : ∀ (n : Nat) (lo : Int), upto lo (n + 1) = upto lo n ++ [lo + n]
  | 0, lo => by simp [upto]
  | n + 1, lo => by
    rw [upto, upto_snoc n (lo + 1)]
    simp only [upto, List.cons_append]
    rw [show lo + 1 + (n : Int) = lo + (n + 1 : Nat) by omega]
theorem or_small {x n : Nat} (hx : x < 64) (hn : n < 5) : x ||| (1 <<< n) < 64 := by
  have h := shl5 hn
  exact Nat.or_lt_two_pow (n := 6) hx (by omega)
theorem sok_put {s : List Int} (h : SOk s) {n : Nat} (hn : n < 5) {z : Int} (hz : 0 ≤ z ∧ z ≤ 40) : SOk (putS n s z) := by
  have h1 := h.tt
  have h2 := or_small h1.2 hn
  exact sok_setg (sok_set7 h (by omega)) hn (by omega)
theorem put_set {n : Nat} {s : List Int} {x y : Int} : (putS n s x).set (2 + n) y = putS n s y := by unfold putS; rw [List.set_set]
theorem all_snoc {p : Int → Bool} {lo : Int} {q : Nat} (h : (upto lo q).all p = true) (h2 : p (lo + q) = true) : (upto lo (q + 1)).all p = true := by rw [upto_snoc, List.all_append, h]; simp [h2]
theorem all_span {p : Int → Bool} {lo hi : Int} {q : Nat} (h : (upto lo q).all p = true) (hq : q = (hi + 1 - lo).toNat) : true = (spanL lo hi).all p := by unfold spanL; rw [← hq, h]
theorem zF9 {p : Int → Bool} {lo hi : Int} {q : Nat} (hq : q < (hi + 1 - lo).toNat) (h2 : p (lo + q) = false) : false = (spanL lo hi).all p := by
  symm
  rw [List.all_eq_false]
  exact ⟨lo + q, zC1.2 (by omega), by simp [h2]⟩
theorem putAt_yes {c2 : Cargo} {n : Nat} {u g : Int} {t s : List Int} (h1 : u < (times c2 (putS n s g)).getD n 0) (h2 : (times c2 (putS n s g)).set n (t.getD n 0) = t) : putAt c2 n u t s g = true := by unfold putAt tOf; rw [decide_eq_true h1, decide_eq_true h2]; rfl
theorem putAt_no1 {c2 : Cargo} {n : Nat} {u g : Int} {t s : List Int} (h1 : (times c2 (putS n s g)).getD n 0 ≤ u) : putAt c2 n u t s g = false := by unfold putAt tOf; rw [decide_eq_false (by omega)]; rfl
theorem putAt_no2 {c2 : Cargo} {n : Nat} {u g : Int} {t s : List Int} (h2 : ¬ (times c2 (putS n s g)).set n (t.getD n 0) = t) : putAt c2 n u t s g = false := by unfold putAt; rw [decide_eq_false h2, Bool.and_false]
theorem c62 {w0 w : World} {X B M F : List (Nat × Obj)} (c c2 : Cargo) (p2 : AtT) (cb2 mm2 : Nat) (hk : CK w0 F c2 p2 0 cb2 mm2) (n : Nat) (hn : c.lots.length = n) (hn5 : n < 5) (g : Int × Int) (hg : 0 ≤ g.1 ∧ g.1 ≤ g.2 ∧ g.2 ≤ 40) (until_ : Int) (b12 b5 b15 b7 : Nat) (h12 : Ats w0 F b12 0 [.int .i64 (n : Int)]) (h5 : Ats w0 F b5 0 [.int .i64 g.1, .int .i64 g.2]) (h15 : Ats w0 F b15 0 [.pointer (some ⟨cb2,0, none⟩)]) (h7 : Ats w0 F b7 0 [.int .i64 until_]) (s : List Int) (hso : SOk s) (hB : Memo c2 mm2 B) (hs : St w0 w (X ++ (B ++ (M ++ F)))) :
  Con Tryz.prog 62 [ia s, ia (times c s), .pointer (some ⟨b12,0, none⟩), .pointer (some ⟨b5,0, none⟩), .pointer (some ⟨b15,0, none⟩), .pointer (some ⟨b7,0, none⟩)] w fun v w' => v = .bool (putQ c c2 g until_ s) ∧ ∃ B', Memo c2 mm2 B' ∧ St w0 w' (X ++ (B' ++ (M ++ F))) := by
  refine zAu (n := 45) func62 rfl rfl (zNl rfl) ?_
  have hls := hso.len
  have htl := zBf c s
  have htt := hso.tt
  have hsh := shl5 hn5
  have hor := or_small htt.2 hn5
  refine zAg (fun K2 gc => (zAc (zDu (l := _) zAb rfl rfl rfl hs (fun b3 w4 gd => ?_))))
  refine zDu (l := _) zAb rfl rfl rfl gd (fun b6 w7 ge => ?_)
  refine zBj rfl rfl (zAe (zAd (gc _ _ (zAg (fun gy gf => (zCe [6] [(0,0),(1,1),(2,1),(3,0),(4,0),(5,0),(6,3)] zB0 (zB5 (by kernel_rfl)) ge (fun gz g6 => ?_)))))))
  refine d_w rfl (fun _ => zAf (o := 7) (i := 3) underlying79 rfl sizeOf3 rfl rfl rfl) rfl ?_
  refine zBb rfl zAb rfl g6 (fun _ hq => (zAk isAgg3 hq rfl rfl (zD5 (i := 1) (o := 7) rfl (by first | omega | rfl | (simp only [hls, zBf, zL] <;> omega))))) ?_
  refine zBb rfl zAb rfl g6 (fun _ hq => (zAk isAgg3 hq.tail.tail.drop.drop.drop rfl rfl h12)) ?_
  refine d_w rfl (fun _ => y_shl (x := 1) (y := n) rfl rfl rfl rfl rfl (by first | rfl | omega) (by first | omega | exact zDe (by omega)) (by first | omega | exact zDe (by omega))) rfl ?_
  refine d_w rfl (fun _ => y_or (x := tt s) (y := 1 <<< n) rfl rfl rfl rfl (by first | rfl | omega) (by first | rfl | omega) (by first | omega | exact zDe (by omega)) (by first | omega | exact zDe (by omega))) rfl ?_
  refine d_w rfl (fun _ => zAf (o := 7) (i := 3) underlying79 rfl sizeOf3 rfl rfl rfl) rfl ?_
  refine zBm rfl ?_
  refine zEp (i := 1) (o := 7) zAb sizeOf3 rfl rfl rfl rfl g6 rfl (by first | omega | rfl | (simp only [hls, zBf, zL] <;> omega)) (fun gA gb => ?_)
  refine zAe (qn ?_)
  refine zBh ?_
  refine zAd (gf _ _ (zAg (fun gB gg => (zAg (fun gC gh => (zAc (w_p (zAf (o := 0) (i := 0) underlying23 rfl sizeOf3 rfl rfl rfl) rfl (w_p (zAk isAgg3 gb.tail.tail.drop.drop.drop rfl rfl (show Ats _ _ _ _ [_] from Ats.part h5 0 1)) rfl ?_))))))))
  refine zBs rfl rfl (zAe (zAd (gh _ _ (zA8 ?_))))
  refine zCd [8,9,10,19,20,21,22,23,24,25,26,27,28,29,30,31,32,33,34,35,36,37,38,39,40,41,42,43,44] [9] (fun k vs w => ∃ (q : Nat) (s2 : List Int) (B : List (Nat × Obj)), vs = [.int .i64 (g.1 + (q : Int))] ∧ (q : Int) ≤ g.2 + 1 - g.1 ∧ k = (g.2 + 1 - g.1).toNat - q ∧ s2.length = 8 ∧ (∀ x, s2.set (2 + n) x = putS n s x) ∧ (upto g.1 q).all (putAt c2 n until_ (times c s) s) = true ∧ Memo c2 mm2 B ∧ St w0 w ((b6, blk 77 (iv (times c s))) :: (b3, blk 79 (iv s2)) :: (X ++ (B ++ (M ++ F))))) ((g.2 + 1 - g.1).toNat) ?_ ?_
  ·
   exact ⟨0, _, B, iv1 (by omega), by omega, by omega, by rw [List.length_set]; exact hls, fun x => rfl, rfl, hB, gb⟩
  intro k vs μ gD hI gE gi
  clear hs hB
  obtain ⟨q, s2, B, rfl, hq, rfl, hs2l, hs2x, hall, hB, hs⟩ := hI
  refine zAg (fun gF gj => (zAg (fun gG gk => (zAc (zBe rfl rfl (w_p (zAf (o := 1) (i := 1) underlying23 rfl sizeOf3 rfl rfl rfl) rfl (w_p (zAk isAgg3 hs.tail.tail.drop.drop.drop rfl rfl (show Ats _ _ _ _ [_] from Ats.part h5 1 1)) rfl ?_)))))))
  refine w_p (zGf rfl rfl rfl rfl) rfl (zAe (zAd (gk _ _ (zA1 rfl rfl (fun g7 => ?_) (fun g7 => ?_)))))
  ·
   try simp only [zS] at g7
   refine zAx (zAd (gj _ _ (zAg (fun gH gl => (zA8 ?_)))))
   refine zAg (fun gI gm => ?_)
   have hq2 : q < (g.2 + 1 - g.1).toNat := by omega
   refine zAc (w_p (zAk isAgg3 hs.tail.tail.drop.drop.drop rfl rfl h12) rfl (zBe rfl rfl (w_p (zAf (o := 2) (i := 2) underlying79 rfl sizeOf77 rfl rfl rfl) rfl (w_p (zCb underlying77 sizeOf3 rfl rfl rfl rfl (i := n) (by first | rfl | omega) (by omega)) rfl ?_))))
   refine w_storeAtIO (i := 1) (o := 2) (j := n) zAb sizeOf3 rfl rfl rfl rfl hs rfl (by first | omega | rfl | (simp only [hls, zBf, zL] <;> omega)) (fun gJ g4 => ?_)
   refine zAe (zAd (gm _ _ (zAg (fun gK gn => ?_))))
   have hsp := sok_put hso hn5 (z := g.1 + (q : Int)) (by omega)
   have hspl := hsp.len
   refine zAc ?_
   rw [hs2x] at g4
   refine w_p (zAk isAgg69 g4.tail.tail.drop.drop.drop rfl rfl h15) rfl (w_p (zBz (i := 1) isAgg79 sizeOf79 (by first | omega | rfl | (simp only [hls, zBf, zL] <;> omega)) g4 rfl rfl rfl) rfl ?_)
   refine zAr zAb call59 rfl rfl rfl rfl (zFr (X := _ :: _ :: X) (M := B) (F := M ++ F) c2 p2 0 cb2 mm2 hk.app _ hsp hB g4) ?_
   rintro _ gL ⟨B2, rfl, hB2, g8⟩
   replace g8 := (show St _ _ (_ :: _ :: X ++ (B2 ++ (M ++ (F)))) from g8)
   refine zA0 (cs := iv [0,0,0,0,0]) zAb zeroValue77 rfl g8 (fun gM gN go => ?_)
   refine zB6 (i := 0) (l := _) zAb sizeOf77 (by first | omega | rfl | (simp only [hls, zBf, zL] <;> omega)) rfl rfl rfl rfl rfl go rfl (by first | omega | rfl | (simp only [hls, zBf, zL] <;> omega)) (fun gO gp => ?_)
   refine zAe (zAd (gn _ _ (zAg (fun gP gq => (zAg (fun gQ gr => ?_))))))
   have ht2 := zBf c2 (putS n s (g.1 + (q : Int)))
   refine zCe [] [(0,1),(1,0),(2,1),(3,1),(4,0)] zB0 (zB5 (by kernel_rfl)) gp (fun gR g0 => ?_)
   refine zBb rfl zAb rfl g0 (fun _ hq => (zAk isAgg3 hq.tail.tail.tail.drop.drop.drop rfl rfl h12)) ?_
   refine d_w rfl (fun _ => zCb underlying77 sizeOf3 rfl rfl rfl rfl (i := n) (by first | rfl | omega) (by omega)) rfl ?_
   refine zBb rfl zAb rfl g0 (fun _ hq => (zAk isAgg3 hq rfl rfl (zCy (i := 0) (j := n) rfl (by first | omega | rfl | (simp only [hls, zBf, zL] <;> omega))))) ?_
   refine zBb rfl zAb rfl g0 (fun _ hq => (zAk isAgg3 hq.tail.tail.tail.drop.drop.drop rfl rfl h7)) ?_
   refine d_w rfl (fun _ => zGf rfl rfl rfl rfl) rfl ?_
   refine zBh ?_
   refine zAd (gr _ _ (zA1 rfl rfl (fun g9 => ?_) (fun g9 => ?_)))
   ·
    try simp only [zS] at g9
    refine zAg (fun gS gt => (zAc (zBj rfl rfl (zAe (zAd (gt _ _ (zA7 (zAm (zAy (zAm (zAm (zAy (zAm (zBa (l := [.tmp 8]) (vs := [_]) rfl ⟨⟨rfl, (rfl : _ = Value.bool _)⟩, trivial⟩ ?_))))))))))))))
    first
      | exact ⟨congrArg Value.bool (zF9 (q := q) (by omega) (by rw [hn]; exact putAt_no1 (by assumption))), B2, hB2, g0.tail.tail.tail⟩
      | exact ⟨congrArg Value.bool (zF9 (q := q) (by omega) (by rw [hn]; exact putAt_no2 (by assumption))), B2, hB2, g0.tail.tail.tail⟩
      | exact ⟨congrArg Value.bool (all_span (q := q) (by rw [hn]; exact hall) (by omega)), B, hB, g0.tail.tail.tail⟩
   try simp only [zS] at g9
   refine zAx (zAd (gq _ _ (zAg (fun gT gu => (zCe [5] [(0,1),(1,1),(2,0),(3,1),(4,0),(5,3)] zB0 (zB5 (by kernel_rfl)) g0 (fun gU g5 => ?_))))))
   refine zBb rfl zAb rfl g5 (fun _ hq => (zAk isAgg3 hq.tail.tail.tail.drop.drop.drop rfl rfl h12)) ?_
   refine zBb rfl zAb rfl g5 (fun _ hq => (zAk isAgg3 hq.tail.tail.tail.drop.drop.drop rfl rfl h12)) ?_
   refine d_w rfl (fun _ => zCb underlying77 sizeOf3 rfl rfl rfl rfl (i := n) (by first | rfl | omega) (by omega)) rfl ?_
   refine zBb rfl zAb rfl g5 (fun _ hq => (zAk isAgg3 hq rfl rfl (zCy (i := 1) (j := n) rfl (by first | omega | rfl | (simp only [hls, zBf, zL] <;> omega))))) ?_
   refine d_w rfl (fun _ => zCb underlying77 sizeOf3 rfl rfl rfl rfl (i := n) (by first | rfl | omega) (by omega)) rfl ?_
   refine zBm rfl ?_
   refine zDr (i := 0) (j := n) zAb sizeOf3 rfl rfl rfl rfl g5 rfl (by first | omega | rfl | (simp only [hls, zBf, zL] <;> omega)) (fun gV g3 => ?_)
   refine zAe (qn ?_)
   refine zBh ?_
   refine zAd (gu _ _ (zAg (fun gW gv => (zAc (w_p (zBz (i := 0) isAgg77 sizeOf77 (by first | omega | rfl | (simp only [hls, zBf, zL] <;> omega)) g3 rfl rfl rfl) rfl ?_)))))
   refine w_p (zBz (i := 1) isAgg77 sizeOf77 (by first | omega | rfl | (simp only [hls, zBf, zL] <;> omega)) g3 rfl rfl rfl) rfl ?_
   refine w_p (y_neFlat (l := _) (m := _) eqGuardType77 Try_flat77 (by first | omega | rfl | (simp only [hls, zBf, zL] <;> omega)) (by first | omega | rfl | (simp only [hls, zBf, zL] <;> omega)) rfl rfl rfl rfl rfl rfl) rfl ?_
   refine zAe (zAd (gv _ _ (zA1 rfl rfl (fun ga => ?_) (fun ga => ?_))))
   ·
    try simp only [zS] at ga
    refine zAg (fun gX gw => (zAc (zBj rfl rfl (zAe (zAd (gw _ _ (zA7 (zAy (zAm (zAm (zAy (zAm (zBa (l := [.tmp 8]) (vs := [_]) rfl ⟨⟨rfl, (rfl : _ = Value.bool _)⟩, trivial⟩ ?_)))))))))))))
    first
      | exact ⟨congrArg Value.bool (zF9 (q := q) (by omega) (by rw [hn]; exact putAt_no1 (by assumption))), B2, hB2, g3.tail.tail.tail⟩
      | exact ⟨congrArg Value.bool (zF9 (q := q) (by omega) (by rw [hn]; exact putAt_no2 (by assumption))), B2, hB2, g3.tail.tail.tail⟩
      | exact ⟨congrArg Value.bool (all_span (q := q) (by rw [hn]; exact hall) (by omega)), B, hB, g3.tail.tail.tail⟩
   try simp only [zS] at ga
   refine zAx (zAn (zAd (gl _ _ (zAc (zBe rfl rfl (w_p (zBq rfl rfl rfl rfl (by omega) (by omega)) rfl (zBs rfl rfl (zAe (zAd (gi _ _ (nxI ((g.2 + 1 - g.1).toNat - (q + 1)) (by omega) ?_)))))))))))
   exact ⟨q + 1, _, B2, iv1 (by omega), by omega, by omega, hspl, fun x => put_set, all_snoc hall (putAt_yes (by assumption) (by assumption)), hB2, g3.tail⟩
  try simp only [zS] at g7
  refine zBy (zAq (zAq (zBc (zAd (gg _ _ (zAg (fun gY gx => (zAc (zBj rfl rfl (zAe (zAd (gx _ _ (zA7 (zBa (l := [.tmp 8]) (vs := [_]) rfl ⟨⟨rfl, (rfl : _ = Value.bool _)⟩, trivial⟩ ?_))))))))))))))
  first
    | exact ⟨congrArg Value.bool (zF9 (q := q) (by omega) (by rw [hn]; exact putAt_no1 (by assumption))), B2, hB2, hs.tail.tail⟩
    | exact ⟨congrArg Value.bool (zF9 (q := q) (by omega) (by rw [hn]; exact putAt_no2 (by assumption))), B2, hB2, hs.tail.tail⟩
    | exact ⟨congrArg Value.bool (all_span (q := q) (by rw [hn]; exact hall) (by omega)), B, hB, hs.tail.tail⟩

theorem put_qis {w0 : World} {F : List (Nat × Obj)} (c c2 : Cargo) (p2 : AtT) (mm cb2 mm2 : Nat) (hk : CK w0 F c2 p2 0 cb2 mm2) (hco : c.Ok) (hold : Nat) (hh : hold < c.holds.length) (g : Int × Int) (hg : 0 ≤ g.1 ∧ g.1 ≤ g.2 ∧ g.2 ≤ 40) (until_ : Int) (b12 b5 b15 b7 : Nat) (h12 : Ats w0 F b12 0 [.int .i64 (c.lots.length : Int)]) (h5 : Ats w0 F b5 0 [.int .i64 g.1, .int .i64 g.2]) (h15 : Ats w0 F b15 0 [.pointer (some ⟨cb2,0, none⟩)]) (h7 : Ats w0 F b7 0 [.int .i64 until_]) : QIs w0 F c mm hold (.func (.func 62) #[] #[.pointer (some ⟨b12,0, none⟩), .pointer (some ⟨b5,0, none⟩), .pointer (some ⟨b15,0, none⟩), .pointer (some ⟨b7,0, none⟩)]) (putQ c c2 g until_) (fun i B => Memo c2 mm2 B) := by
  intro i hi B M X w hB hM hs
  have hlo := hco.ll
  refine (zDw call62 (c62 (X := X) (B := B) (M := M) (F := F) c c2 p2 cb2 mm2 hk c.lots.length rfl (by omega) g hg until_ b12 b5 b15 b7 h12 h5 h15 h7 _ (zDz hco hh (List.getElem_mem hi)).1 hB hs)).mono ?_
  rintro v w' ⟨rfl, B', hB', g0⟩
  exact ⟨rfl, B', M, hB', hM, g0⟩
theorem tin_with {w0 : World} {F : List (Nat × Obj)} {c : Cargo} {p : AtT} {l : Tu.Lot} {bl : Nat} (hm : TIn w0 F c p) (hc : c.Ok) (hs : Sl w0 F (some ⟨bl, 0, none⟩) 4 (lrows (c.lots ++ [l]))) : TIn w0 F (withLot c l) { p with al := some ⟨bl, 0, none⟩, cl := c.lots.length + 1 } :=
  ⟨hm.e, hm.h, hs, hm.n, hm.le, hm.lh, by have := hc.ll; simp only [withLot, List.length_append, List.length_cons, List.length_nil]; omega, hm.ln⟩
theorem tok_with {c : Cargo} (hc : c.Ok) (l : Tu.Lot) : (withLot c l).TOk := ⟨hc.le, by have := hc.ll; simp only [withLot, List.length_append, List.length_cons, List.length_nil]; omega, hc.heat, hc.gas⟩
theorem lrows_len (l : List Tu.Lot) : (lrows l).flatten.length = l.length * 4 := by
  rw [flat_len_sz (sz := 4) (by intro row h; obtain ⟨x, _, rfl⟩ := List.mem_map.1 h; rfl)]; simp [lrows]
theorem zHp (l : List Tu.Lot) (x : Tu.Lot) : (lrows (l ++ [x])).flatten = (lrows l).flatten ++ x.cells := by simp [lrows]
theorem put_rows {l : List Tu.Lot} {x : Tu.Lot} {old : List Value} (ho : old.length = 4) : setMany ((lrows l).flatten ++ old) (0 + l.length * 4) x.cells = (lrows (l ++ [x])).flatten := by
  have h := zGn x.cells old (lrows l).flatten [] (by rw [ho]; rfl)
  rw [List.append_nil, List.append_nil, lrows_len] at h
  rw [Nat.zero_add, h, zHp]
theorem putP_e {c : Cargo} {g : Int × Int} {f u : Int} (h : ¬ enterE c (putL c g f u) = 0) : putP c g f u = ([], enterE c (putL c g f u)) := by unfold putP; rw [if_pos h]
theorem putP_y {c : Cargo} {g : Int × Int} {f u : Int} (h : enterE c (putL c g f u) = 0) : putP c g f u = (putTo c g f u c.holds.length, 0) := by unfold putP; rw [if_neg (by simp [h])]
theorem putL_1 {c : Cargo} {g : Int × Int} {f u : Int} (h : u ≤ f) : [hoursA c [f, u], (decide (widthE g 40 = 7), widthE g 40), (true, 2)] = putL c g f u := by unfold putL; rw [decide_eq_true h]; rfl
theorem putL_2 {c : Cargo} {g : Int × Int} {f u : Int} (h : ¬ u ≤ f) : [hoursA c [f, u], (decide (widthE g 40 = 7), widthE g 40), (!decide (widthE g 40 = 0), 2)] = putL c g f u := by
  unfold putL; rw [decide_eq_false h, Bool.false_or]; simp
theorem putL_ne {c : Cargo} {g : Int × Int} {f u : Int} : ∀ x ∈ putL c g f u, x.1 = true → x.2 ≠ 0 := by
  intro x hx h
  simp only [putL, List.mem_cons, List.not_mem_nil, or_false] at hx
  rcases hx with rfl | rfl | rfl
  · simp [hoursA]
  · simp only [decide_eq_true_eq] at h; rw [h]; decide
  · simp
theorem putL_ok {c : Cargo} {g : Int × Int} {f u : Int} (h : anyAsk (putL c g f u) = false) : (0 ≤ g.1 ∧ g.1 ≤ g.2 ∧ g.2 ≤ 40) ∧ 0 ≤ f ∧ f ≤ c.heat.length := by
  obtain ⟨h1, h2, h3⟩ := any_3 h
  have h4 := hoursA_ok h1 f (by simp)
  simp only [Bool.or_eq_false_iff, decide_eq_false_iff_not, Decidable.not_not] at h3
  have h5 := zGk h3.2
  omega
theorem putT_yes {c : Cargo} {g : Int × Int} {f u : Int} {k : Nat} (h : Tu.ask c k (putQ c (withLot c ⟨k, f, g.1, g.2⟩) g u) = 1) : putTo c g f u (k + 1) = putTo c g f u k ++ [(k : Int)] := by rw [putTo, if_pos h]
theorem putT_no {c : Cargo} {g : Int × Int} {f u : Int} {k : Nat} (h : ¬ Tu.ask c k (putQ c (withLot c ⟨k, f, g.1, g.2⟩) g u) = 1) : putTo c g f u (k + 1) = putTo c g f u k := by rw [putTo, if_neg h]
theorem put_len (c : Cargo) (g : Int × Int) (f u : Int) : ∀ i, (putTo c g f u i).length ≤ i
  | 0 => Nat.le_refl _
  | i + 1 => by
    have := put_len c g f u i
    rw [putTo]; split
    · simp; omega
    · omega
theorem c28 {w0 w : World} {F : List (Nat × Obj)} (c : Cargo) (p : AtT) (hm : TIn w0 F c p) (g : Int × Int) (frm until_ : Int) (hs : St w0 w F) :
  Con Tryz.prog 28 [.agg (c.cells p).toArray, .agg (scells g).toArray, .int .i64 frm, .int .i64 until_] w fun v w' => ∃ B a c', v = .tuple #[.slice a (putP c g frm until_).1.length c', .int .i64 (putP c g frm until_).2] ∧ Sl w0 B a 1 ((putP c g frm until_).1.map fun x => [Value.int .i64 x]) ∧ St w0 w' (B ++ F) := by
  refine zAu (n := 87) func28 rfl rfl (zNl rfl) ?_
  have hll0 := hm.ll
  refine zAg (fun K2 gD => (zAc (zCj (v := .agg #[.slice _ _ _, .int _ _, .slice _ _ _, .slice _ _ _, .slice _ _ _]) (cs := [_,_,_,_,_]) zAb rfl rfl rfl hs (fun b3 w4 gE => ?_))))
  refine zCj (v := .agg #[.int _ _, .int _ _]) (cs := [_,_]) zAb rfl rfl rfl gE (fun b6 w7 gF => ?_)
  refine zCj (v := .int _ _) (cs := [_]) zAb rfl rfl rfl gF (fun b9 j3 gr => ?_)
  refine zBj rfl rfl (zBj rfl rfl (zAe (zAd (gD _ _ (zAg (fun j4 gG => (zAc (w_p (zA9 (vs := [_,_]) isAgg23 sizeOf23 gr rfl rfl (zAl (i := 1) (vs := [_,_]) rfl rfl)) rfl ?_))))))))
  refine zAr zAb call60 rfl rfl rfl rfl (c60 g 40 (by omega) gr) ?_
  rintro _ j5 ⟨rfl, gH⟩
  refine zBs rfl rfl (zAe (zAd (gG _ _ (zAg (fun j6 gt => (w_cut [9,11,19,20,21,22,23,24,25,26,27,28,29,30,31,32,33,34,35,36,37,38,39,40,41] [9,11] (fun vs w => (¬ enterE c (putL c g frm until_) = 0 ∧ (∃ x, vs = [.int .i64 (enterE c (putL c g frm until_)), x]) ∧ St w0 w ((b9, blk 3 [.int .i64 until_]) :: (b6, blk 23 [.int .i64 g.1, .int .i64 g.2]) :: (b3, blk 42 (c.cells p)) :: F)) ∨ (enterE c (putL c g frm until_) = 0 ∧ ∃ cb mm M, vs = [.int .i64 0, .pointer (some ⟨cb, 0, none⟩)] ∧ Memo c mm M ∧ St w0 w ((cb, blk 132 [.slice p.ae c.heat.length p.ce, .int .i64 c.gas, .slice p.ah c.holds.length p.ch, .slice p.al c.lots.length p.cl, .slice p.an c.seen.length p.cn, .int .i64 ((0 : Nat) : Int), .map (some mm)]) :: (b9, blk 3 [.int .i64 until_]) :: (b6, blk 23 [.int .i64 g.1, .int .i64 g.2]) :: (b3, blk 42 (c.cells p)) :: (M ++ F)))) (fun j7 g6 => ?_) ?_))))))
  ·
   refine zCe [] [(0,1),(1,1),(2,0),(3,1),(6,0),(7,0),(8,0),(9,0),(10,1),(11,0),(12,0),(4,2),(5,2),(13,0),(14,0),(15,0),(16,0),(17,0),(18,2),(19,2),(20,0),(21,0),(22,0),(23,0),(24,0)] zB0 (zB5 (by kernel_rfl)) gH (fun j8 g5 => ?_)
   refine zBb rfl zAb rfl g5 (fun _ hq => (zA9 (vs := [_,_,_,_,_]) isAgg42 sizeOf42 hq rfl rfl (zAl (i := 2) (vs := [_,_,_,_,_]) rfl rfl))) ?_
   refine zBb rfl zAb rfl g5 (fun _ hq => (zA9 (vs := [_,_,_,_,_]) isAgg42 sizeOf42 hq rfl rfl (zAl (i := 2) (vs := [_,_,_,_,_]) rfl rfl))) ?_
   refine d_w rfl (fun _ => zA6 rfl rfl) rfl ?_
   refine zBb rfl zAb rfl g5 (fun _ hq => (zAk isAgg3 hq rfl rfl (zAl (i := 0) (vs := [_]) rfl rfl))) ?_
   refine d_w rfl (fun _ => zA6 rfl rfl) rfl ?_
   refine d_w rfl (fun _ => zB3 rfl rfl rfl rfl) rfl ?_
   refine d_w rfl (fun _ => zA6 rfl rfl) rfl ?_
   refine d_w rfl (fun _ => zBx (ps := [(0, _),(1, _)]) (pv := [(0, .bool _),(1, .int _ _)]) rfl rfl (fun w => zHx _ _ w)) rfl ?_
   refine zBb rfl zAb rfl g5 (fun _ hq => (zAk isAgg3 hq rfl rfl (zAl (i := 0) (vs := [_]) rfl rfl))) ?_
   refine d_w rfl (fun _ => zA6 rfl rfl) rfl ?_
   refine d_w rfl (fun _ => zGf rfl rfl rfl rfl) rfl ?_
   refine zBl rfl ?_
   refine zA3 (ps := [(0, _),(1, _)]) (pv := [(0, .int _ _),(1, .int _ _)]) (cs := [_,_]) zAb rfl rfl (fun w => Try_UL_fb3 _ _ w) g5 (fun j9 ja gu => ?_)
   refine zAe (qn ⟨gu.tail, ?_⟩)
   refine zBl rfl ?_
   refine zAr zAb call33 rfl rfl rfl rfl (c33 c _ hm.cons.cons.cons.cons _ _ [_,_] (by simp) (zBd (i := 0) (rows := [[_], [_]]) rfl (by simp) rfl) gu) ?_
   rintro _ jb ⟨rfl, gc⟩
   refine zAe (qn ⟨gc.tail, ?_⟩)
   refine d_w rfl (fun _ => zAi (v := .bool _) rfl rfl) rfl ?_
   refine zDx (fun gd => ?_) (fun gd => ?_)
   ·
    try simp only [zS] at gd
    refine zBr rfl rfl rfl rfl ?_
    refine zBr rfl rfl rfl rfl ?_
    refine d_w rfl (fun _ => zAv (v := _) rfl rfl rfl rfl) rfl ?_
    refine d_w rfl (fun _ => zBx (ps := [(0, _),(1, _)]) (pv := [(0, .bool _),(1, .int _ _)]) rfl rfl (fun w => zHx _ _ w)) rfl ?_
    refine zBl rfl ?_
    refine zA3 (ps := [(0, _),(1, _),(2, _)]) (pv := [(0, .agg #[.bool _, .int _ _]),(1, .agg #[.bool _, .int _ _]),(2, .agg #[.bool _, .int _ _])]) (cs := [_,_,_,_,_,_]) zAb rfl rfl (fun w => Try_UL_fb4 _ _ _ _ _ _ w) gc (fun jc jd gv => ?_)
    refine zAe (qn ⟨gv.tail.tail, ?_⟩)
    refine zBl rfl ?_
    refine zAr zAb call32 rfl rfl rfl rfl ((by have h := c32 c _ hm.cons.cons.cons.cons.cons _ 3 [hoursA c [frm, until_], (decide (widthE g 40 = 7), widthE g 40), (true, 2)] (by simp) (by rw [(putL_1 (c := c) (g := g) (f := frm) (u := until_) (by omega))]; exact putL_ne) (zBd (i := 0) (rows := (arows [hoursA c [frm, until_], (decide (widthE g 40 = 7), widthE g 40), (true, 2)])) rfl (fun row h => by obtain ⟨x, _, rfl⟩ := List.mem_map.1 h; rfl) rfl) gv; rw [(putL_1 (c := c) (g := g) (f := frm) (u := until_) (by omega))] at h; exact h)) ?_
    rintro _ je (⟨hee, rfl, g0⟩ | ⟨hee, cb, mm, M, rfl, hM, g0⟩)
    ·
     refine zAe (qn ⟨g0.tail.tail, ?_⟩)
     refine d_w rfl (fun _ => zAi (v := .tuple _) rfl rfl) rfl ?_
     refine d_w rfl (fun _ => zAh (v := .pointer _) rfl rfl rfl) rfl ?_
     refine d_w rfl (fun _ => zAh (v := .int _ _) rfl rfl rfl) rfl ?_
     refine d_w rfl (fun _ => zAo (v := .pointer _) rfl rfl) rfl ?_
     refine d_w rfl (fun _ => zA2 rfl rfl) rfl ?_
     refine zBh ?_
     refine zAd (g6 _ _ (Md.intro (by repeat (first | exact zAz | exact zA5 | refine zA4 rfl ?_ | refine zAw rfl ?_ _ | refine zAt rfl ?_)) ?_))
     have ge := g0.tail.tail
     replace ge := (show St _ _ (_ :: _ :: _ :: F) from ge)
     exact .inl ⟨hee, ⟨_, rfl⟩, ge⟩
    replace g0 := (show St _ _ (M ++ (_ :: _ :: _ :: _ :: _ :: _ :: F)) from g0)
    refine zAe (qn ⟨g0.drop.tail.tail.tail, ?_⟩)
    refine d_w rfl (fun _ => zAi (v := .tuple _) rfl rfl) rfl ?_
    refine d_w rfl (fun _ => zAh (v := .pointer _) rfl rfl rfl) rfl ?_
    refine d_w rfl (fun _ => zAh (v := .int _ _) rfl rfl rfl) rfl ?_
    refine d_w rfl (fun _ => zAo (v := .pointer _) rfl rfl) rfl ?_
    refine d_w rfl (fun _ => zA2 rfl rfl) rfl ?_
    refine zBh ?_
    refine zAd (g6 _ _ (Md.intro (by repeat (first | exact zAz | exact zA5 | refine zA4 rfl ?_ | refine zAw rfl ?_ _ | refine zAt rfl ?_)) ?_))
    have gf := ((((((g0.perm ((List.Perm.append_left M (zAa [_] [_] _)).trans (zAa M [_] _))).tail.perm ((List.Perm.append_left M (zAa [_] [_] _)).trans (zAa M [_] _))).tail.perm ((List.Perm.append_left M (zAa [_,_,_] [_] _)).trans (zAa M [_] _))).perm ((List.Perm.append_left [_] ((List.Perm.append_left M (zAa [_,_] [_] _)).trans (zAa M [_] _))).trans (zAa [_] [_] _))).perm ((List.Perm.append_left [_,_] ((List.Perm.append_left M (zAa [_] [_] _)).trans (zAa M [_] _))).trans (zAa [_,_] [_] _))).perm ((List.Perm.append_left [_,_,_] (zAa M [_] _)).trans (zAa [_,_,_] [_] _)))
    replace gf := (show St _ _ (_ :: _ :: _ :: _ :: M ++ (F)) from gf)
    exact .inr ⟨hee, cb, mm, M, rfl, hM, gf⟩
   try simp only [zS] at gd
   refine zBv rfl (zAp rfl rfl rfl) rfl (fun _ => (zA6 rfl rfl)) ?_
   refine zBv rfl (zAp rfl rfl rfl) rfl (fun _ => (zCv rfl rfl rfl rfl)) ?_
   refine d_w rfl (fun _ => zBg (v := .bool _) rfl rfl rfl rfl) rfl ?_
   refine d_w rfl (fun _ => zBx (ps := [(0, _),(1, _)]) (pv := [(0, .bool _),(1, .int _ _)]) rfl rfl (fun w => zHx _ _ w)) rfl ?_
   refine zBl rfl ?_
   refine zA3 (ps := [(0, _),(1, _),(2, _)]) (pv := [(0, .agg #[.bool _, .int _ _]),(1, .agg #[.bool _, .int _ _]),(2, .agg #[.bool _, .int _ _])]) (cs := [_,_,_,_,_,_]) zAb rfl rfl (fun w => Try_UL_fb4 _ _ _ _ _ _ w) gc (fun jf jg gw => ?_)
   refine zAe (qn ⟨gw.tail.tail, ?_⟩)
   refine zBl rfl ?_
   refine zAr zAb call32 rfl rfl rfl rfl ((by have h := c32 c _ hm.cons.cons.cons.cons.cons _ 3 [hoursA c [frm, until_], (decide (widthE g 40 = 7), widthE g 40), (!decide (widthE g 40 = 0), 2)] (by simp) (by rw [(putL_2 (c := c) (g := g) (f := frm) (u := until_) (by omega))]; exact putL_ne) (zBd (i := 0) (rows := (arows [hoursA c [frm, until_], (decide (widthE g 40 = 7), widthE g 40), (!decide (widthE g 40 = 0), 2)])) rfl (fun row h => by obtain ⟨x, _, rfl⟩ := List.mem_map.1 h; rfl) rfl) gw; rw [(putL_2 (c := c) (g := g) (f := frm) (u := until_) (by omega))] at h; exact h)) ?_
   rintro _ jh (⟨hee, rfl, g3⟩ | ⟨hee, cb, mm, M, rfl, hM, g3⟩)
   ·
    refine zAe (qn ⟨g3.tail.tail, ?_⟩)
    refine d_w rfl (fun _ => zAi (v := .tuple _) rfl rfl) rfl ?_
    refine d_w rfl (fun _ => zAh (v := .pointer _) rfl rfl rfl) rfl ?_
    refine d_w rfl (fun _ => zAh (v := .int _ _) rfl rfl rfl) rfl ?_
    refine d_w rfl (fun _ => zAo (v := .pointer _) rfl rfl) rfl ?_
    refine d_w rfl (fun _ => zA2 rfl rfl) rfl ?_
    refine zBh ?_
    refine zAd (g6 _ _ (Md.intro (by repeat (first | exact zAz | exact zA5 | refine zA4 rfl ?_ | refine zAw rfl ?_ _ | refine zAt rfl ?_)) ?_))
    have gg := g3.tail.tail
    replace gg := (show St _ _ (_ :: _ :: _ :: F) from gg)
    exact .inl ⟨hee, ⟨_, rfl⟩, gg⟩
   replace g3 := (show St _ _ (M ++ (_ :: _ :: _ :: _ :: _ :: _ :: F)) from g3)
   refine zAe (qn ⟨g3.drop.tail.tail.tail, ?_⟩)
   refine d_w rfl (fun _ => zAi (v := .tuple _) rfl rfl) rfl ?_
   refine d_w rfl (fun _ => zAh (v := .pointer _) rfl rfl rfl) rfl ?_
   refine d_w rfl (fun _ => zAh (v := .int _ _) rfl rfl rfl) rfl ?_
   refine d_w rfl (fun _ => zAo (v := .pointer _) rfl rfl) rfl ?_
   refine d_w rfl (fun _ => zA2 rfl rfl) rfl ?_
   refine zBh ?_
   refine zAd (g6 _ _ (Md.intro (by repeat (first | exact zAz | exact zA5 | refine zA4 rfl ?_ | refine zAw rfl ?_ _ | refine zAt rfl ?_)) ?_))
   have gh := ((((((g3.perm ((List.Perm.append_left M (zAa [_] [_] _)).trans (zAa M [_] _))).tail.perm ((List.Perm.append_left M (zAa [_] [_] _)).trans (zAa M [_] _))).tail.perm ((List.Perm.append_left M (zAa [_,_,_] [_] _)).trans (zAa M [_] _))).perm ((List.Perm.append_left [_] ((List.Perm.append_left M (zAa [_,_] [_] _)).trans (zAa M [_] _))).trans (zAa [_] [_] _))).perm ((List.Perm.append_left [_,_] ((List.Perm.append_left M (zAa [_] [_] _)).trans (zAa M [_] _))).trans (zAa [_,_] [_] _))).perm ((List.Perm.append_left [_,_,_] (zAa M [_] _)).trans (zAa [_,_,_] [_] _)))
   replace gh := (show St _ _ (_ :: _ :: _ :: _ :: M ++ (F)) from gh)
   exact .inr ⟨hee, cb, mm, M, rfl, hM, gh⟩
  intro vs μ ji hM
  clear hs
  rcases hM with hM | hM
  ·
   obtain ⟨hee, ⟨xx, rfl⟩, hs⟩ := hM
   refine zAd (gt _ _ (zAg (fun jj jk => (zAg (fun jl gI => (zAc (zBe rfl rfl (w_p (zCv rfl rfl rfl rfl) rfl (zAe (zAd (gI _ _ (zA1 rfl rfl (fun g7 => ?_) (fun g7 => ?_)))))))))))))
   ·
    try simp only [zS] at g7
    refine zAg (fun jm gJ => (zAc (zBe rfl rfl (zBj rfl rfl (zBs rfl rfl (zAe (zAd (gJ _ _ (zA7 (zAm (zBa (l := [.tmp 8, .tmp 9]) (vs := [_,_]) rfl ⟨⟨rfl, show _ = (.slice _ _ _ : Value) from rfl⟩, ⟨rfl, (rfl : _ = Value.int _ _)⟩, trivial⟩ ?_)))))))))))
    exact ⟨[], none, 0, by rw [putP_e hee]; rfl, by rw [putP_e hee]; exact Sl.nil _ _, hs.tail.tail.tail⟩
   exfalso
   try simp only [zS] at g7
   exact hee g7
  obtain ⟨hee, cb, mm, M, rfl, hM, hs⟩ := hM
  have hew := zE8 putL_ne hee
  have hok := check_ok hew.1
  have hlo := hok.ll
  have hle2 := hok.le
  have hlh2 := hok.lh
  refine zAd (gt _ _ (zAg (fun jn gK => (zAg (fun jo gL => (zAc (zBe rfl rfl (w_p (zCv rfl rfl rfl rfl) rfl (zAe (zAd (gL _ _ (zB7 rfl rfl ?_))))))))))))
  refine zAx (zAd (gK _ _ (zAg (fun jp gM => ?_))))
  obtain ⟨hgr, hfr⟩ := putL_ok hew.2.1
  refine zAc (w_p (zAf (o := 3) (i := 3) underlying42 rfl sizeOf39 rfl rfl rfl) rfl (w_p (zAk isAgg39 hs rfl rfl (zAl (i := 3) (vs := [_]) rfl rfl)) rfl (w_p (zBo underlying39 rfl rfl) rfl (zA0 (cs := [_]) zAb zeroValue3 rfl hs (fun gx jq gN => ?_)))))
  refine zAs (i := 0) (v := .int _ _) (vs := [_]) zAb sizeOf3 rfl rfl rfl rfl rfl (by simp [Value.oneCell']) gN rfl (zNl rfl) (fun jr gy => ?_)
  refine zAe (zAd (gM _ _ (zAg (fun js gO => (zAc (w_p (zA9 (vs := [_,_,_,_,_]) isAgg42 sizeOf42 gy rfl rfl (zAl (i := 4) (vs := [_,_,_,_,_]) rfl rfl)) rfl (zA0 (cs := [_,_,_,_,_]) zAb zeroValue42 rfl gy (fun gP jt gQ => ?_))))))))
  refine zAs (i := 0) (v := .agg #[.slice _ _ _, .int _ _, .slice _ _ _, .slice _ _ _, .slice _ _ _]) (vs := [_,_,_,_,_]) zAb sizeOf42 rfl rfl rfl rfl rfl (by simp [Value.oneCell']) gQ rfl (zNl rfl) (fun ju gz => ?_)
  refine zAe (zAd (gO _ _ (zAg (fun jv gR => (zAc (w_p (zAk isAgg3 gz rfl rfl (zAl (i := 1) (vs := [_]) rfl rfl)) rfl (w_p (yd_cast (z' := ((c.lots.length + 1 : Nat) : Int)) (by omega) (zBq rfl rfl rfl rfl (by omega) (by omega))) rfl ?_)))))))
  refine w_makeZ (k := c.lots.length + 1) (sz := 4) zAb underlying39 Try_info38 rfl rfl (by decide) rfl (by omega) (by omega) rfl (zNl rfl) rfl rfl rfl rfl gz (fun g4 jw gS => ?_)
  refine w_p (zAf (o := 3) (i := 3) underlying42 rfl sizeOf39 rfl rfl rfl) rfl (zAs (i := 1) (v := .slice _ _ _) (vs := [_]) zAb sizeOf39 rfl rfl rfl rfl rfl (by simp [Value.oneCell']) gS rfl (zNl rfl) (fun jx gi => ?_))
  refine zAe (zAd (gR _ _ (zAg (fun jy gT => (zAc (w_p (zAf (o := 3) (i := 3) underlying42 rfl sizeOf39 rfl rfl rfl) rfl (w_p (zAk isAgg39 gi rfl rfl (zAl (i := 1) (vs := [_]) rfl rfl)) rfl ?_)))))))
  refine w_p (zAf (o := 3) (i := 3) underlying42 rfl sizeOf39 rfl rfl rfl) rfl (w_p (zAk isAgg39 gi rfl rfl (zAl (i := 6) (vs := [_]) rfl rfl)) rfl (w_copyR (i := 0) (sz := 4) (rows := lrows c.lots) zAb underlying39 sizeOf38 rfl rfl rfl rfl gi rfl hm.l.app.cons.cons.cons.cons.cons.cons.cons (fun row h => by obtain ⟨x, _, rfl⟩ := List.mem_map.1 h; rfl) (by simp [lrows]) (by omega) (fun row h u hu => by obtain ⟨x, _, rfl⟩ := List.mem_map.1 h; simp only [Tu.Lot.cells, List.mem_cons, List.not_mem_nil, or_false] at hu; rcases hu with rfl | rfl | rfl | rfl <;> rfl) (by simp only [List.length_map, List.length_replicate]; omega) (fun jz gU => ?_)))
  refine zAe (zAd (gT _ _ (zAg (fun jA gV => (zAg (fun jB gW => ?_))))))
  have g8 := ((((((((gU.perm (zAa [_,_,_,_,_,_,_] M _)).perm ((List.Perm.append_left M (zAa [_,_,_,_,_,_] [_] _)).trans (zAa M [_] _))).perm ((List.Perm.append_left [_] ((List.Perm.append_left M (zAa [_,_,_,_,_] [_] _)).trans (zAa M [_] _))).trans (zAa [_] [_] _))).perm ((List.Perm.append_left [_,_] ((List.Perm.append_left M (zAa [_,_,_,_] [_] _)).trans (zAa M [_] _))).trans (zAa [_,_] [_] _))).perm ((List.Perm.append_left [_,_,_] ((List.Perm.append_left M (zAa [_,_] [_] _)).trans (zAa M [_] _))).trans (zAa [_,_,_] [_] _))).perm ((List.Perm.append_left [_,_,_,_] ((List.Perm.append_left M (zAa [_] [_] _)).trans (zAa M [_] _))).trans (zAa [_,_,_,_] [_] _))).perm ((List.Perm.append_left [_,_,_,_,_] (zAa M [_] _)).trans (zAa [_,_,_,_,_] [_] _))).perm ((List.Perm.append_left [_,_,_,_,_,_] (zAa M [_] _)).trans (zAa [_,_,_,_,_,_] [_] _)))
  replace g8 := (show St _ _ (_ :: _ :: _ :: _ :: _ :: _ :: _ :: M ++ (F)) from g8)
  have hmc : ∀ l : Tu.Lot, ((withLot c l).cells ({ p with al := some ⟨g4,0, none⟩, cl := c.lots.length + 1 } : AtT)) = [.slice p.ae c.heat.length p.ce, .int .i64 c.gas, .slice p.ah c.holds.length p.ch, .slice (some ⟨g4,0, none⟩) (c.lots.length + 1) (c.lots.length + 1), .slice p.an c.seen.length p.cn] := fun l => by simp [withLot, Cargo.cells]
  refine zAc (w_p (zAf (o := 2) (i := 2) underlying42 rfl sizeOf36 rfl rfl rfl) rfl (w_p (zAk isAgg36 g8 rfl rfl (zAl (i := 6) (vs := [_]) rfl rfl)) rfl (w_p (zBo underlying36 rfl rfl) rfl (w_p (zAi (v := _) rfl rfl) rfl ?_))))
  refine zAe (zAd (gW _ _ (zA8 ?_)))
  refine zCd [8,14,15,16,61,62,63,64,65,66,67,68,69,70,71,72,73,74,75,76,77,78,79,80,81,82,83,84,85] [8,61] (fun kk vs w => ∃ (k : Nat) (v : Value) (old : List Value) (B M : List (Nat × Obj)), vs = [v, .int .i64 k] ∧ k ≤ c.holds.length ∧ kk = c.holds.length - k ∧ old.length = 4 ∧ Rt.Own v 3 1 (putTo c g frm until_ k).length (iv (putTo c g frm until_ k)) B ∧ Memo c mm M ∧ St w0 w ((cb, blk 132 [.slice p.ae c.heat.length p.ce, .int .i64 c.gas, .slice p.ah c.holds.length p.ch, .slice p.al c.lots.length p.cl, .slice p.an c.seen.length p.cn, .int .i64 ((0 : Nat) : Int), .map (some mm)]) :: (g4, blk 38 ((lrows c.lots).flatten ++ old)) :: (gP, blk 42 [.slice p.ae c.heat.length p.ce, .int .i64 c.gas, .slice p.ah c.holds.length p.ch, .slice (some ⟨g4,0, none⟩) (c.lots.length + 1) (c.lots.length + 1), .slice p.an c.seen.length p.cn]) :: (gx, blk 3 [.int .i64 (c.lots.length : Int)]) :: (b9, blk 3 [.int .i64 until_]) :: (b6, blk 23 [.int .i64 g.1, .int .i64 g.2]) :: (b3, blk 42 (c.cells p)) :: (B ++ (M ++ F)))) (c.holds.length) ?_ ?_
  ·
   exact ⟨0, _,_, [], M, rfl, by omega, by omega, (by simp only [List.length_drop, List.length_map, List.length_replicate]; omega), zE1 3 1, hM, g8⟩
  intro k vs μ jC hI jD gA
  clear hs hM
  obtain ⟨k, v, old, B, M, rfl, hka, rfl, hold4, hown, hM, hs⟩ := hI
  refine zAg (fun jE gX => (zAc (w_p (zCl rfl rfl rfl rfl) rfl (zAe (zAd (gX _ _ (zAg (fun jF gY => (zA1 rfl rfl (fun gj => ?_) (fun gj => ?_))))))))))
  ·
   try simp only [zS] at gj
   refine zAx (zAd (gY _ _ (zAg (fun jG gB => (zA8 ?_)))))
   refine zAg (fun jH gZ => (zAc (zBe rfl rfl (zBs rfl rfl (zAe (zAd (gZ _ _ (zAg (fun jI hD => ?_)))))))))
   have hk2 : k < c.holds.length := by omega
   have hpl := put_len c g frm until_ k
   refine zAc (w_p (zAf (o := 3) (i := 3) underlying42 rfl sizeOf39 rfl rfl rfl) rfl (w_p (zAk isAgg39 hs rfl rfl (zAl (i := 2) (vs := [_]) rfl rfl)) rfl (w_p (zAk isAgg3 hs rfl rfl (zAl (i := 3) (vs := [_]) rfl rfl)) rfl ?_)))
   refine zBe rfl rfl (zBe rfl rfl (w_p (zA9 (vs := [_,_]) isAgg23 sizeOf23 hs rfl rfl (zAl (i := 5) (vs := [_,_]) rfl rfl)) rfl (w_p (zBx (ps := [(0, _),(1, _),(2, _)]) (pv := [(0, .int _ _),(1, .int _ _),(2, .agg #[.int _ _, .int _ _])]) rfl rfl (fun w => Try_UL_fb6 _ _ _ _ w)) rfl ?_)))
   refine w_p (zBk underlying39 sizeOf38 rfl rfl rfl rfl (i := c.lots.length) rfl (by omega)) rfl (zAs (i := 1) (v := .agg #[.int _ _, .int _ _, .int _ _, .int _ _]) (vs := (⟨(k : Int), frm, g.1, g.2⟩ : Tu.Lot).cells) zAb sizeOf38 rfl rfl rfl rfl rfl (by simp [Tu.Lot.cells, Value.oneCell']) hs rfl (by rw [List.length_append, lrows_len, hold4]; show 0 + c.lots.length * 4 + 4 ≤ _; omega) (fun jJ gk => ?_))
   rw [put_rows hold4] at gk
   refine zAe (zAd (hD _ _ (zAg (fun jK hG => (zAc (w_p (zA9 (vs := [_,_,_,_,_]) isAgg42 sizeOf42 gk rfl rfl (zAl (i := 2) (vs := [_,_,_,_,_]) rfl rfl)) rfl (zAr zAb call61 rfl rfl rfl rfl ((by have h := c61 (withLot c (⟨(k : Int), frm, g.1, g.2⟩ : Tu.Lot)) ({ p with al := some ⟨g4,0, none⟩, cl := c.lots.length + 1 } : AtT) 0 gk; rw [hmc] at h; exact h)) ?_)))))))
   rintro _ jL ⟨cb2, mm2, rfl, gl⟩
   replace gl := (show St _ _ (_ :: _ :: _ :: _ :: _ :: _ :: _ :: _ :: _ :: B ++ (M ++ (F))) from gl)
   refine zA0 (cs := [_]) zAb zeroValue69 rfl gl (fun hH jM hN => ?_)
   refine zAs (i := 0) (v := .pointer _) (vs := [_]) zAb sizeOf69 rfl rfl rfl rfl rfl (by simp [Value.oneCell']) hN rfl (zNl rfl) (fun jN hO => ?_)
   refine zAe (zAd (hG _ _ (zAg (fun jO hP => (zAc (w_p (zAi (v := .pointer _) rfl rfl) rfl (zBe rfl rfl (w_p (zCa (fv := []) (cv := [_,_,_,_]) rfl rfl rfl rfl) rfl ?_))))))))
   refine w_p (zBx (ps := [(0, _)]) (pv := [(0, .func _ _ _)]) rfl rfl (fun w => Try_UL_fb7 _ _ _ w)) rfl ?_
   have gm := ((((((((((((hO.perm (zAa [_,_,_,_,_,_,_,_,_] [_] _)).perm (zAa [_,_,_,_,_,_,_,_,_] [_] _)).perm (zAa [_,_,_,_,_,_,_,_,_] [_] _)).perm (zAa [_,_,_,_,_,_,_,_,_] [_] _)).perm (zAa [_,_,_,_,_,_,_,_,_] [_] _)).perm (zAa [_,_,_,_,_,_,_,_,_] [_] _)).perm (zAa [_,_,_,_,_,_,_,_,_] [_] _)).perm (zAa [_,_,_,_,_,_,_,_] [_] _)).perm (zAa [_,_,_,_,_,_,_,_] [_] _)).perm ((List.Perm.append_left [_,_,_,_,_,_,_,_,_,_] (zAa B M _)).trans (zAa [_,_,_,_,_,_,_,_,_,_] M _))).perm ((List.Perm.append_left M (zAa [_,_,_,_,_,_,_,_,_] [_] _)).trans (zAa M [_] _))).perm ((List.Perm.append_left [_] ((List.Perm.append_left M (zAa [_,_,_,_,_,_,_,_,_] B _)).trans (zAa M B _))).trans (zAa [_] B _)))
   replace gm := (show St _ _ (B ++ (_ :: M ++ (_ :: _ :: _ :: _ :: _ :: _ :: _ :: _ :: _ :: F))) from gm)
   refine zAr zAb call34 rfl rfl rfl rfl ((by have h := c34 (X := B) (B := [_]) (M := M) (F := _ :: _ :: (cb, blk 132 [.slice p.ae c.heat.length p.ce, .int .i64 c.gas, .slice p.ah c.holds.length p.ch, .slice p.al c.lots.length p.cl, .slice p.an c.seen.length p.cn, .int .i64 ((0 : Nat) : Int), .map (some mm)]) :: _ :: _ :: _ :: _ :: _ :: _ :: F) c p cb mm ⟨hm.cons.cons.cons.cons.cons.cons.cons.cons.cons, zAl (i := 2) rfl rfl, hok.t, by omega⟩ hok k hk2 62 #[] #[.pointer (some ⟨gx,0, none⟩), .pointer (some ⟨b6,0, none⟩), .pointer (some ⟨hH,0, none⟩), .pointer (some ⟨b9,0, none⟩)] (putQ c (withLot c (⟨(k : Int), frm, g.1, g.2⟩ : Tu.Lot)) g until_) (fun i B => Memo (withLot c (⟨(k : Int), frm, g.1, g.2⟩ : Tu.Lot)) mm2 B) (put_qis c (withLot c (⟨(k : Int), frm, g.1, g.2⟩ : Tu.Lot)) ({ p with al := some ⟨g4,0, none⟩, cl := c.lots.length + 1 } : AtT) mm cb2 mm2 ⟨(tin_with (hm.cons.cons.cons.cons.cons.cons.cons.cons.cons) hok (zBd (i := 3) (rows := lrows (c.lots ++ [(⟨(k : Int), frm, g.1, g.2⟩ : Tu.Lot)])) rfl (fun row h => by obtain ⟨x, _, rfl⟩ := List.mem_map.1 h; rfl) (by have h := lrows_len (c.lots ++ [(⟨(k : Int), frm, g.1, g.2⟩ : Tu.Lot)]); rw [show (lrows (c.lots ++ [(⟨(k : Int), frm, g.1, g.2⟩ : Tu.Lot)])).length = (c.lots ++ [(⟨(k : Int), frm, g.1, g.2⟩ : Tu.Lot)]).length by simp [lrows], ← h, List.take_length]))), zAl (i := 1) rfl rfl, tok_with hok _, by omega⟩ hok k hk2 g hgr until_ _ _ _ _ (zAl (i := 5) (vs := [_]) rfl rfl) (zAl (i := 7) (vs := [_,_]) rfl rfl) (zAl (i := 0) (vs := [_]) rfl rfl) (zAl (i := 6) (vs := [_]) rfl rfl)) (zEg _ mm2) hM gm; exact h)) ?_
   rintro _ jP ⟨rfl, B1, M120, hJ1, gC, gn⟩
   replace gn := (show St _ _ (B ++ (B1 ++ (M120 ++ (_ :: _ :: _ :: _ :: _ :: _ :: _ :: _ :: _ :: F)))) from gn)
   have g9 := ((((((((((((gn.perm ((List.Perm.append_left B (zAa B1 M120 _)).trans (zAa B M120 _))).perm ((List.Perm.append_left M120 (zAa B B1 _)).trans (zAa M120 B1 _))).perm ((List.Perm.append_left B1 (zAa M120 B _)).trans (zAa B1 B _))).perm ((List.Perm.append_left B ((List.Perm.append_left B1 ((List.Perm.append_left M120 (zAa [_,_,_,_,_,_,_,_] [_] _)).trans (zAa M120 [_] _))).trans (zAa B1 [_] _))).trans (zAa B [_] _))).perm ((List.Perm.append_left [_] ((List.Perm.append_left B ((List.Perm.append_left B1 ((List.Perm.append_left M120 (zAa [_,_,_,_,_,_,_] [_] _)).trans (zAa M120 [_] _))).trans (zAa B1 [_] _))).trans (zAa B [_] _))).trans (zAa [_] [_] _))).perm ((List.Perm.append_left [_,_] ((List.Perm.append_left B ((List.Perm.append_left B1 ((List.Perm.append_left M120 (zAa [_,_,_,_,_,_] [_] _)).trans (zAa M120 [_] _))).trans (zAa B1 [_] _))).trans (zAa B [_] _))).trans (zAa [_,_] [_] _))).perm ((List.Perm.append_left [_,_,_] ((List.Perm.append_left B ((List.Perm.append_left B1 ((List.Perm.append_left M120 (zAa [_,_,_,_,_] [_] _)).trans (zAa M120 [_] _))).trans (zAa B1 [_] _))).trans (zAa B [_] _))).trans (zAa [_,_,_] [_] _))).perm ((List.Perm.append_left [_,_,_,_] ((List.Perm.append_left B ((List.Perm.append_left B1 ((List.Perm.append_left M120 (zAa [_,_,_,_] [_] _)).trans (zAa M120 [_] _))).trans (zAa B1 [_] _))).trans (zAa B [_] _))).trans (zAa [_,_,_,_] [_] _))).perm ((List.Perm.append_left [_,_,_,_,_] ((List.Perm.append_left B ((List.Perm.append_left B1 ((List.Perm.append_left M120 (zAa [_,_,_] [_] _)).trans (zAa M120 [_] _))).trans (zAa B1 [_] _))).trans (zAa B [_] _))).trans (zAa [_,_,_,_,_] [_] _))).perm ((List.Perm.append_left [_,_,_,_,_,_] ((List.Perm.append_left B ((List.Perm.append_left B1 ((List.Perm.append_left M120 (zAa [_,_] [_] _)).trans (zAa M120 [_] _))).trans (zAa B1 [_] _))).trans (zAa B [_] _))).trans (zAa [_,_,_,_,_,_] [_] _))).perm ((List.Perm.append_left [_,_,_,_,_,_,_] ((List.Perm.append_left B ((List.Perm.append_left B1 ((List.Perm.append_left M120 (zAa [_] [_] _)).trans (zAa M120 [_] _))).trans (zAa B1 [_] _))).trans (zAa B [_] _))).trans (zAa [_,_,_,_,_,_,_] [_] _))).perm ((List.Perm.append_left [_,_,_,_,_,_,_,_] ((List.Perm.append_left B ((List.Perm.append_left B1 (zAa M120 [_] _)).trans (zAa B1 [_] _))).trans (zAa B [_] _))).trans (zAa [_,_,_,_,_,_,_,_] [_] _)))
   replace g9 := (show St _ _ (_ :: _ :: _ :: _ :: _ :: _ :: _ :: _ :: _ :: B ++ (B1 ++ (M120 ++ (F)))) from g9)
   refine zBs rfl rfl (zAe (zAd (hP _ _ (zAg (fun jQ hX => (zAc (zBe rfl rfl (w_p (zB3 rfl rfl rfl rfl) rfl (zAe (zAd (hX _ _ (zA1 rfl rfl (fun go => ?_) (fun go => ?_)))))))))))))
   ·
    try simp only [zS] at go
    refine zAc (w_p (zAi (v := v) rfl rfl) rfl (zBe rfl rfl (zA3 (ps := [(0, _)]) (pv := [(0, .int _ _)]) (cs := [_]) zAb rfl rfl (fun w => Try_UL_fb8 _ w) g9 (fun jR jS hY => ?_))))
    refine zEf (X := (_ :: _ :: _ :: _ :: _ :: _ :: _ :: _ :: _ :: _ :: [])) (B := B) (rows := [[_]]) (sz := 1) (bytes := 8) zAb underlying35 zEb rfl rfl rfl rfl rfl rfl rfl rfl rfl hY hown (zBd (i := 0) rfl (by simp) rfl) rfl (by simp) (by simp [Value.oneCell']) (by simp only [maxLen]; omega) (by omega) (fun j0 jT gp j1 gq => ?_)
    replace gq := (show St _ _ (_ :: _ :: _ :: _ :: _ :: _ :: _ :: _ :: _ :: _ :: gp ++ (B1 ++ (M120 ++ (F)))) from gq)
    refine w_p (zAo (v := j0) rfl rfl) rfl (zAe (zAn (zAd (gB _ _ (zAc (w_p (zBq rfl rfl rfl rfl (by omega) (by omega)) rfl (zBe rfl rfl (zAe (zAd (gA _ _ (nxI (c.holds.length - (k + 1)) (by omega) ?_)))))))))))
    have ga := (gq.tail.tail.tail.perm ((List.Perm.append_left [_,_,_,_,_,_,_] (zAa gp B1 _)).trans (zAa [_,_,_,_,_,_,_] B1 _))).drop
    replace ga := (show St _ _ (_ :: _ :: _ :: _ :: _ :: _ :: _ :: gp ++ (M120 ++ (F))) from ga)
    rw [zHp] at ga
    exact ⟨k + 1, _,_,_, M120, rfl, by omega, rfl, rfl, by rw [putT_yes (by assumption)]; exact zIa j1, gC, ga⟩
   try simp only [zS] at go
   refine zAx (zAn (zAd (gB _ _ (zAc (w_p (zBq rfl rfl rfl rfl (by omega) (by omega)) rfl (zBe rfl rfl (zAe (zAd (gA _ _ (nxI (c.holds.length - (k + 1)) (by omega) ?_))))))))))
   have gb := (g9.tail.tail.perm ((List.Perm.append_left [_,_,_,_,_,_,_] (zAa B B1 _)).trans (zAa [_,_,_,_,_,_,_] B1 _))).drop
   replace gb := (show St _ _ (_ :: _ :: _ :: _ :: _ :: _ :: _ :: B ++ (M120 ++ (F))) from gb)
   rw [zHp] at gb
   exact ⟨k + 1, v, _, B, M120, rfl, by omega, rfl, rfl, by rw [putT_no (by assumption)]; exact hown, gC, gb⟩
  try simp only [zS] at gj
  refine zBy (zAq (zAq (zBc (zAd (gV _ _ (zAg (fun jU j2 => (zAc (w_p (zAi (v := v) rfl rfl) rfl (w_p (zAo (v := v) rfl rfl) rfl ?_))))))))))
  refine zBj rfl rfl (zAe (zAd (j2 _ _ (zA7 (zBa (l := [.tmp 8, .tmp 9]) (vs := [_,_]) rfl ⟨⟨rfl, show _ = (v : Value) from rfl⟩, ⟨rfl, (rfl : _ = Value.int _ _)⟩, trivial⟩ ?_)))))
  have hin : k = c.holds.length := by omega
  subst hin
  obtain ⟨a9, c9, rfl, hsl9, _⟩ := zG5 (w0 := w0) hown
  exact ⟨B, a9, c9, by rw [putP_y hee]; rfl, by rw [putP_y hee]; exact hsl9, kq_opq hs.tail.tail.tail.tail.tail.tail.tail⟩

end Go.Proofs.Ut
set_option maxRecDepth 20000
namespace Go.Proofs.Ut
open Go.Proofs.Tryz
open Go.Rt Go.Rt.Tu
open Go.Rt.Ha (firstE zCf zBu zB1 failE felt spanL upto zC1 listL fewest fewTo bit Bunch before fewStep zCm zDd zCc zCx zC6 zCw zB8)
attribute [local irreducible] WL WC Con Yd At Ats Sl Agree DW
theorem Try_UM_fb3 (x0 : Int) (w : World) : (Instr.buildSlice 35 1 [(0, .int .i64 x0)].toArray).run Tryz.prog w = .ok (.slice (some ⟨w.heap.size, 0, none⟩) 1 1) (w.alloc (Go.Rt.blk 3 [.int .i64 x0])) := by kernel_rfl
def cmpI (a b : Int) : Int := if a < b then -1 else if b < a then 1 else 0
theorem zEm {a b : List Int} {i : Nat} (h : a.take i = b.take i) (ha : i < a.length) (hb : i < b.length) (hne : ¬ cmpI a[i] b[i] = 0) : decide (0 < cmpI a[i] b[i]) = less b a := by
  have hn : a[i] ≠ b[i] := fun e => hne (by unfold cmpI; rw [e]; simp)
  rw [zDp h.symm hb ha (fun e => hn e.symm)]
  unfold cmpI
  rw [Bool.eq_iff_iff]
  simp only [decide_eq_true_eq]
  split
  · simp; omega
  · split <;> simp <;> omega
theorem cmp_zero {a b : Int} (h : cmpI a b = 0) : a = b := by
  unfold cmpI at h
  split at h
  · omega
  · split at h <;> omega
theorem listL_yes {x i : Nat} (h : ((bit x i : Nat) : Int) = 1) : listL x (i + 1) = listL x i ++ [(i : Int)] := by simp only [listL]; rw [if_pos (by omega)]
theorem listL_no {x i : Nat} (h : ¬ ((bit x i : Nat) : Int) = 1) : listL x (i + 1) = listL x i := by simp only [listL]; rw [if_neg (by omega), List.append_nil]
theorem zG6 (x : Nat) : ∀ n, (listL x n).length ≤ n
  | 0 => by simp [listL]
  | n + 1 => by have := zG6 x n; simp only [listL, List.length_append]; split <;> simp <;> omega
theorem listL_in (b : Nat) : ∀ n, ∀ z ∈ listL b n, 0 ≤ z ∧ z < n
  | 0, z, h => by simp [listL] at h
  | n + 1, z, h => by
    simp only [listL, List.mem_append] at h
    rcases h with h | h
    · have := listL_in b n z h; omega
    · split at h <;> simp at h; omega
theorem shl_16 {n : Nat} (h : n ≤ 4) : 1 ≤ 1 <<< n ∧ 1 <<< n ≤ 16 := by
  have h2 := shl5 (i := n) (by omega)
  have := Nat.pow_pos (n := n) (show 0 < 2 by omega)
  omega
theorem zDb {d : Nat → Bool} {n s : Nat} (h1 : (fewTo d n s).2 = true) (h2 : before (fewTo d n s).1 (listL s n) = true) : fewTo d n (s + 1) = fewTo d n s := by simp only [fewTo, fewStep]; rw [h1, h2]; rfl
theorem zF1 {d : Nat → Bool} {n s : Nat} (h1 : (fewTo d n s).2 = false ∨ before (fewTo d n s).1 (listL s n) = false) (h2 : d s = true) : fewTo d n (s + 1) = (listL s n, true) := by
  simp only [fewTo, fewStep]; rw [if_neg (by rcases h1 with h | h <;> simp [h]), if_pos h2]
theorem zH4 {d : Nat → Bool} {n s : Nat} (h1 : (fewTo d n s).2 = false ∨ before (fewTo d n s).1 (listL s n) = false) (h2 : d s = false) : fewTo d n (s + 1) = fewTo d n s := by
  simp only [fewTo, fewStep]; rw [if_neg (by rcases h1 with h | h <;> simp [h]), if_neg (by simp [h2])]
theorem few_len (d : Nat → Bool) (n : Nat) : ∀ s, (fewTo d n s).1.length ≤ n
  | 0 => by simp [fewTo]
  | s + 1 => by have := few_len d n s; have := zG6 s n; simp only [fewTo, fewStep]; split <;> (try split) <;> assumption
theorem zB9 {v1 v2 : Value} {b1 b2 : Bool} {z1 z2 : Int} (h1 : v1 = v2) (h2 : b1 = b2) (h3 : z1 = z2) : [v1, Value.bool b1, Value.int .i64 z1] = [v2, Value.bool b2, Value.int .i64 z2] := by rw [h1, h2, h3]
theorem zBw {a b : List Int} (h1 : a.length ≤ b.length → ¬ (b.length : Int) > a.length) (h2 : a.length = b.length → less a b = false) : before a b = false := by
  unfold before
  rw [Bool.or_eq_false_iff, Bool.and_eq_false_iff]
  refine ⟨by simp; omega, ?_⟩
  by_cases e : a.length = b.length
  · exact .inr (h2 e)
  · left; simpa using e
theorem c67 {w0 w : World} {F : List (Nat × Obj)} (x n : Nat) (hx : x < 1000) (hn : n ≤ 40) (hs : St w0 w F) :
  Con Tryz.prog 67 [.int .i64 x, .int .i64 n] w fun v w' => ∃ B, Rt.Own v 3 1 (listL x n).length (iv (listL x n)) B ∧ St w0 w' (B ++ F) := by
  refine zAu (n := 21) func67 rfl rfl (zNl rfl) ?_
  refine zAg (fun K2 g7 => (zAc (zBj rfl rfl (zAe (zAd (g7 _ _ (zAg (fun K4 g8 => (zAg (fun K6 g9 => (zAc (zBe rfl rfl (w_p (zAi (v := _) rfl rfl) rfl ?_)))))))))))))
  refine zAe (zAd (g9 _ _ (zA8 ?_)))
  refine zCd [4,5,7,8,9,10,11,12,13,14,15,16,17,18,19] [4,7] (fun k vs w => ∃ (i : Nat) (v : Value) (B : List (Nat × Obj)), vs = [v, .int .i64 i] ∧ i ≤ n ∧ k = n - i ∧ Rt.Own v 3 1 (listL x i).length (iv (listL x i)) B ∧ St w0 w (B ++ F)) (n) ?_ ?_
  ·
   exact ⟨0, _, [], rfl, by omega, by omega, zE1 3 1, hs⟩
  intro k vs μ w9 hI K8 g5
  obtain ⟨i, v, B, rfl, hia, rfl, hown, hs⟩ := hI
  have hll := zG6 x i
  refine zAg (fun gj ga => (zAc (w_p (zCl rfl rfl rfl rfl) rfl (zAe (zAd (ga _ _ (zAg (fun gk gb => (zA1 rfl rfl (fun g0 => ?_) (fun g0 => ?_))))))))))
  ·
   try simp only [zS] at g0
   refine zAx (zAd (gb _ _ (zAg (fun gl g6 => (zA8 ?_)))))
   refine zAg (fun gm gc => (zAc (zBe rfl rfl (zBs rfl rfl (zAe (zAd (gc _ _ (zAg (fun gn gd => (zAc (zBe rfl rfl (zBe rfl rfl (w_p (y_shr (x := x) (y := i) rfl rfl rfl rfl (by first | rfl | omega) (by first | rfl | omega) (by first | omega | exact zDe (by omega))) rfl ?_)))))))))))))
   refine w_p (show Yd _ _ _ _ (.int .i64 ((bit x i : Nat) : Int)) from (y_and (x := _) (y := 1) rfl rfl rfl rfl rfl rfl (by first | omega | exact zDe (by omega)) (by first | omega | exact zDe (by omega)))) rfl ?_
   refine w_p (zB3 rfl rfl rfl rfl) rfl (zAe (zAd (gd _ _ (zA1 rfl rfl (fun g3 => ?_) (fun g3 => ?_)))))
   ·
    try simp only [zS] at g3
    refine zAc (w_p (zAi (v := v) rfl rfl) rfl (zBe rfl rfl (zA3 (ps := [(0, _)]) (pv := [(0, .int _ _)]) (cs := [_]) zAb rfl rfl (fun w => Try_UM_fb3 _ w) hs (fun go gp ge => ?_))))
    refine zEf (X := (_ :: [])) (B := B) (rows := [[_]]) (sz := 1) (bytes := 8) zAb underlying35 zEb rfl rfl rfl rfl rfl rfl rfl rfl rfl ge hown (zBd (i := 0) rfl (by simp) rfl) rfl (by simp) (by simp [Value.oneCell']) (by simp only [maxLen]; omega) (by omega) (fun gf gq gg gh g4 => ?_)
    replace g4 := (show St _ _ (_ :: gg ++ (F)) from g4)
    refine w_p (zAo (v := gf) rfl rfl) rfl (zAe (zAn (zAd (g6 _ _ (zAc (w_p (zBq rfl rfl rfl rfl (by omega) (by omega)) rfl (zBe rfl rfl (zAe (zAd (g5 _ _ (nxI (n - (i + 1)) (by omega) ?_)))))))))))
    exact ⟨i + 1, _,_, rfl, by omega, rfl, by rw [listL_yes (by assumption)]; exact zIa gh, g4.tail⟩
   try simp only [zS] at g3
   refine zAx (zAn (zAd (g6 _ _ (zAc (w_p (zBq rfl rfl rfl rfl (by omega) (by omega)) rfl (zBe rfl rfl (zAe (zAd (g5 _ _ (nxI (n - (i + 1)) (by omega) ?_))))))))))
   exact ⟨i + 1, v, B, rfl, by omega, rfl, by rw [listL_no (by assumption)]; exact hown, hs⟩
  try simp only [zS] at g0
  refine zBy (zAq (zAq (zBc (zAd (g8 _ _ (zAg (fun gr gi => (zAc (w_p (zAi (v := v) rfl rfl) rfl (w_p (zAo (v := v) rfl rfl) rfl ?_))))))))))
  refine zAe (zAd (gi _ _ (zA7 (zBa (l := [.tmp 4]) (vs := [_]) rfl ⟨⟨rfl, show _ = (v : Value) from rfl⟩, trivial⟩ ?_))))
  have hin : i = n := by omega
  subst hin
  exact ⟨B, hown, hs⟩

theorem c105 {w0 w : World} {F : List (Nat × Obj)} (x : Int) (hs : St w0 w F) :
  Con Tryz.prog 105 [.int .i64 x] w fun v w' => v = .bool false ∧ St w0 w' F := by
  refine zAu (n := 6) func105 rfl rfl (zNl rfl) ?_
  refine zAg (fun K2 g0 => (zAc (zBj rfl rfl (zAe (zAd (g0 _ _ (zAg (fun K4 g3 => (zAc (zBe rfl rfl (zBe rfl rfl (w_p (zCv rfl rfl rfl rfl) rfl ?_))))))))))))
  refine w_p (zAo (v := .bool _) rfl rfl) rfl (zAe (zAd (g3 _ _ (zA7 (zBa (l := [.tmp 2]) (vs := [_]) rfl ⟨⟨rfl, (rfl : _ = Value.bool _)⟩, trivial⟩ ?_)))))
  exact ⟨by simp [retV], hs⟩

theorem c101 {w0 w : World} {F : List (Nat × Obj)} (a b : Int) (hs : St w0 w F) :
  Con Tryz.prog 101 [.int .i64 a, .int .i64 b] w fun v w' => v = .int .i64 (cmpI a b) ∧ St w0 w' F := by
  refine zAu (n := 20) func101 rfl rfl (zNl rfl) ?_
  refine zAg (fun K2 g5 => (zAc (zBj rfl rfl (zAe (zAd (g5 _ _ (zAg (fun K4 g6 => (zAc (zBe rfl rfl (zAr zAb call105 rfl rfl rfl rfl (c105 _ hs) ?_)))))))))))
  rintro _ w6 ⟨rfl, g7⟩
  refine w_p (zAo (v := .bool _) rfl rfl) rfl (zAe (zAd (g6 _ _ (zAg (fun K9 g8 => (zAc (zBe rfl rfl (zAr zAb call105 rfl rfl rfl rfl (c105 _ g7) ?_))))))))
  rintro _ gk ⟨rfl, g0⟩
  refine w_p (zAo (v := .bool _) rfl rfl) rfl (zAe (zAd (g8 _ _ (zAg (fun gl g9 => (zAg (fun gm ga => (zAc (w_p (zAi (v := .bool _) rfl rfl) rfl ?_)))))))))
  refine zAe (zAd (ga _ _ (zB7 rfl rfl ?_)))
  refine zAx (zAd (g9 _ _ (zAg (fun gn gb => (zAg (fun go gc => (zAc (w_p (zAi (v := .bool _) rfl rfl) rfl (zAe (zAd (gc _ _ (zB7 rfl rfl ?_))))))))))))
  refine zAx (zAd (gb _ _ (zAg (fun gp gd => (zAg (fun gq ge => (zAc (zBe rfl rfl (zBe rfl rfl (w_p (zCl rfl rfl rfl rfl) rfl (zAe (zAd (ge _ _ (zA1 rfl rfl (fun g3 => ?_) (fun g3 => ?_)))))))))))))))
  ·
   try simp only [zS] at g3
   refine zAg (fun gr gf => (zAc (zBj rfl rfl (zAe (zAd (gf _ _ (zA7 (zAm (zBa (l := [.tmp 4]) (vs := [_]) rfl ⟨⟨rfl, (rfl : _ = Value.int _ _)⟩, trivial⟩ ?_)))))))))
   exact ⟨congrArg (Value.int .i64) (by unfold cmpI; (repeat' split) <;> first | rfl | omega), g0⟩
  try simp only [zS] at g3
  refine zAx (zAd (gd _ _ (zAg (fun gt gg => (zAg (fun gu gh => (zAc (zBe rfl rfl (zBe rfl rfl (w_p (zEt rfl rfl rfl rfl) rfl (zAe (zAd (gh _ _ (zA1 rfl rfl (fun g4 => ?_) (fun g4 => ?_)))))))))))))))
  ·
   try simp only [zS] at g4
   refine zAg (fun gv gi => (zAc (zBj rfl rfl (zAe (zAd (gi _ _ (zA7 (zAm (zBa (l := [.tmp 4]) (vs := [_]) rfl ⟨⟨rfl, (rfl : _ = Value.int _ _)⟩, trivial⟩ ?_)))))))))
   exact ⟨congrArg (Value.int .i64) (by unfold cmpI; (repeat' split) <;> first | rfl | omega), g0⟩
  try simp only [zS] at g4
  refine zAx (zAd (gg _ _ (zAg (fun gw gj => (zAc (zBj rfl rfl (zAe (zAd (gj _ _ (zA7 (zBa (l := [.tmp 4]) (vs := [_]) rfl ⟨⟨rfl, (rfl : _ = Value.int _ _)⟩, trivial⟩ ?_)))))))))))
  exact ⟨congrArg (Value.int .i64) (by unfold cmpI; (repeat' split) <;> first | rfl | omega), g0⟩

theorem c75 {w0 w : World} {F : List (Nat × Obj)} (aa ab : Option Addr) (a b : List Int) (ca cb : Nat) (hla : a.length ≤ 9223372036854775807) (hlb : b.length ≤ 9223372036854775807) (ha : Sl w0 F aa 1 (a.map fun x => [Value.int .i64 x])) (hb : Sl w0 F ab 1 (b.map fun x => [Value.int .i64 x])) (hs : St w0 w F) :
  Con Tryz.prog 75 [.slice aa a.length ca, .slice ab b.length cb] w fun v w' => (∃ z, v = .int .i64 z ∧ decide (0 < z) = less b a) ∧ St w0 w' F := by
  refine zAu (n := 36) func75 rfl rfl (zNl rfl) ?_
  refine zAg (fun K2 g7 => (zAc (zBj rfl rfl (zAe (zAd (g7 _ _ (zAg (fun K4 g8 => (zAg (fun K6 g9 => (zAc (w_p (zAi (v := .slice _ _ _) rfl rfl) rfl ?_))))))))))))
  refine w_p (zBo underlying35 rfl rfl) rfl (w_p (zAi (v := _) rfl rfl) rfl (zAe (zAd (g9 _ _ (zA8 ?_)))))
  refine zCd [4,5,6,7,8,11,12,13,14,15,16,17,18,19,20,21,22,23,24,25,26,27,28,29,30] [11] (fun k vs w => ∃ i : Nat, vs = [.int .i64 i] ∧ i ≤ a.length ∧ i ≤ b.length ∧ k = a.length - i ∧ a.take i = b.take i ∧ St w0 w F) (a.length) ?_ ?_
  ·
   exact ⟨0, rfl, by omega, by omega, by omega, rfl, hs⟩
  intro k vs μ w9 hI K8 ga
  obtain ⟨i, rfl, hia, hib, rfl, hpre, hs⟩ := hI
  refine zAg (fun gq gb => (zAc (w_p (zCl rfl rfl rfl rfl) rfl (zAe (zAd (gb _ _ (zAg (fun gr gc => (zA1 rfl rfl (fun g3 => ?_) (fun g3 => ?_))))))))))
  ·
   try simp only [zS] at g3
   refine zAx (zAd (gc _ _ (zAg (fun gt gd => (zA8 ?_)))))
   refine zAg (fun gu ge => ?_)
   have hia2 : i < a.length := by omega
   obtain ⟨ba, oa, rfl, hxa⟩ := zDv ha hia2
   refine zAc (zBe rfl rfl (w_p (zBk underlying35 sizeOf3 rfl rfl rfl rfl (i := _) rfl (by omega)) rfl (w_p (zAk isAgg3 hs rfl rfl hxa) rfl (zBs rfl rfl (zBs rfl rfl (zAe (zAd (ge _ _ (zAg (fun gv gf => (zAg (fun gw gg => (zAc (zBe rfl rfl ?_))))))))))))))
   refine w_p (zAi (v := .slice _ _ _) rfl rfl) rfl (w_p (zBo underlying35 rfl rfl) rfl (w_p (zHh rfl rfl rfl rfl) rfl (zAe (zAd (gg _ _ (zA1 rfl rfl (fun g4 => ?_) (fun g4 => ?_)))))))
   ·
    try simp only [zS] at g4
    refine zAg (fun gx gh => (zAc (zBj rfl rfl (zAe (zAd (gh _ _ (zA7 (zAm (zAy (zAm (zAm (zAy (zAm (zBa (l := [.tmp 4]) (vs := [_]) rfl ⟨⟨rfl, (rfl : _ = Value.int _ _)⟩, trivial⟩ ?_))))))))))))))
    first
      | exact ⟨⟨_, rfl, zEm hpre hia2 hib2 (by assumption)⟩, hs⟩
      | exact ⟨⟨_, rfl, by rw [zCp hpre.symm (by omega) (by omega)]; rfl⟩, hs⟩
      | exact ⟨⟨_, rfl, by rw [zC8 hpre.symm hib (by omega)]; rfl⟩, hs⟩
   try simp only [zS] at g4
   refine zAx (zAd (gf _ _ (zAg (fun gy gi => ?_))))
   have hib2 : i < b.length := by omega
   obtain ⟨bb, ob, rfl, hxb⟩ := zDv hb hib2
   refine zAc (w_p (zAi (v := .slice _ _ _) rfl rfl) rfl (zBe rfl rfl (w_p (zBk underlying35 sizeOf3 rfl rfl rfl rfl (i := _) rfl (by omega)) rfl (w_p (zAk isAgg3 hs rfl rfl hxb) rfl (zBs rfl rfl (zAe (zAd (gi _ _ (zAg (fun gz gj => (zAc (zBe rfl rfl ?_))))))))))))
   refine zBe rfl rfl (zAr zAb call101 rfl rfl rfl rfl (c101 _ _ hs) ?_)
   rintro _ gA ⟨rfl, g0⟩
   refine zBs rfl rfl (zAe (zAd (gj _ _ (zAg (fun gB gk => (zAc (zBe rfl rfl (w_p (zCv rfl rfl rfl rfl) rfl (zAe (zAd (gk _ _ (zA1 rfl rfl (fun g5 => ?_) (fun g5 => ?_)))))))))))))
   ·
    try simp only [zS] at g5
    refine zAg (fun gC gl => (zAc (zBe rfl rfl (zBs rfl rfl (zAe (zAd (gl _ _ (zA7 (zAy (zAm (zAm (zAy (zAm (zBa (l := [.tmp 4]) (vs := [_]) rfl ⟨⟨rfl, (rfl : _ = Value.int _ _)⟩, trivial⟩ ?_))))))))))))))
    first
      | exact ⟨⟨_, rfl, zEm hpre hia2 hib2 (by assumption)⟩, g0⟩
      | exact ⟨⟨_, rfl, by rw [zCp hpre.symm (by omega) (by omega)]; rfl⟩, g0⟩
      | exact ⟨⟨_, rfl, by rw [zC8 hpre.symm hib (by omega)]; rfl⟩, g0⟩
   try simp only [zS] at g5
   refine zAx (zAn (zAd (gd _ _ (zAc (w_p (zBq rfl rfl rfl rfl (by omega) (by omega)) rfl (zBe rfl rfl (zAe (zAd (ga _ _ (nxI (a.length - (i + 1)) (by omega) ?_))))))))))
   exact ⟨i + 1, rfl, by omega, by omega, rfl, zFs hpre (by omega) (by omega) (cmp_zero (by assumption)), g0⟩
  try simp only [zS] at g3
  refine zBy (zAq (zAq (zBc (zAd (g8 _ _ (zAg (fun gD gm => (zAg (fun gE gn => (zAc (w_p (zAi (v := .slice _ _ _) rfl rfl) rfl ?_)))))))))))
  refine w_p (zBo underlying35 rfl rfl) rfl (w_p (zAi (v := .slice _ _ _) rfl rfl) rfl (w_p (zBo underlying35 rfl rfl) rfl (w_p (zCl rfl rfl rfl rfl) rfl (zAe (zAd (gn _ _ (zA1 rfl rfl (fun g6 => ?_) (fun g6 => ?_))))))))
  ·
   try simp only [zS] at g6
   refine zAg (fun gF go => (zAc (zBj rfl rfl (zAe (zAd (go _ _ (zA7 (zAm (zBa (l := [.tmp 4]) (vs := [_]) rfl ⟨⟨rfl, (rfl : _ = Value.int _ _)⟩, trivial⟩ ?_)))))))))
   first
     | exact ⟨⟨_, rfl, zEm hpre hia2 hib2 (by assumption)⟩, hs⟩
     | exact ⟨⟨_, rfl, by rw [zCp hpre.symm (by omega) (by omega)]; rfl⟩, hs⟩
     | exact ⟨⟨_, rfl, by rw [zC8 hpre.symm hib (by omega)]; rfl⟩, hs⟩
  try simp only [zS] at g6
  refine zAx (zAd (gm _ _ (zAg (fun gG gp => (zAc (zBj rfl rfl (zAe (zAd (gp _ _ (zA7 (zBa (l := [.tmp 4]) (vs := [_]) rfl ⟨⟨rfl, (rfl : _ = Value.int _ _)⟩, trivial⟩ ?_)))))))))))
  first
    | exact ⟨⟨_, rfl, zEm hpre hia2 hib2 (by assumption)⟩, hs⟩
    | exact ⟨⟨_, rfl, by rw [zCp hpre.symm (by omega) (by omega)]; rfl⟩, hs⟩
    | exact ⟨⟨_, rfl, by rw [zC8 hpre.symm hib (by omega)]; rfl⟩, hs⟩

theorem _root_.Go.Rt.Sl.top {w0 : World} {B F : List (Nat × Obj)} {a : Option Addr} {sz : Nat} {rows : List (List Value)} (h : Sl w0 B a sz rows) : Sl w0 (B ++ F) a sz rows := h.mono fun _ h => h.front
theorem c64 {w0 w : World} {M F : List (Nat × Obj)} (n : Nat) (hn : n ≤ 4) (fv : Value) (d : Nat → Bool) (I : List (Nat × Obj) → Prop) (hd : ∀ (s : Nat) (M X : List (Nat × Obj)) (w : World), s < 1 <<< n → I M → St w0 w (X ++ (M ++ F)) → FCon Tryz.prog fv [.int .i64 (s : Int)] w fun v w' => v = .bool (d s) ∧ ∃ M', I M' ∧ St w0 w' (X ++ (M' ++ F))) (hI0 : I M) (hs : St w0 w (M ++ F)) :
  Con Tryz.prog 64 [.int .i64 (n : Int), fv] w fun v w' => ∃ B M' a c, v = .slice a (fewest d n).1.length c ∧ Sl w0 B a 1 ((fewest d n).1.map fun x => [Value.int .i64 x]) ∧ I M' ∧ St w0 w' (B ++ (M' ++ F)) := by
  refine zAu (n := 43) func64 rfl rfl (zNl rfl) ?_
  have hsh := shl_16 hn
  refine zAg (fun K2 gj => (zAc (zBj rfl rfl (zAe (zAd (gj _ _ (zAg (fun K4 gk => (zAc (zBj rfl rfl (zAe (zAd (gk _ _ (zAg (fun K6 gl => (zAg (fun K8 gm => (zAc (zBe rfl rfl ?_)))))))))))))))))))
  refine w_p (y_shl (x := 1) (y := n) rfl rfl rfl rfl rfl (by first | rfl | omega) (by first | omega | exact zDe (by omega)) (by first | omega | exact zDe (by omega))) rfl ?_
  refine w_p (zAi (v := _) rfl rfl) rfl (zAe (zAd (gm _ _ (zA8 ?_))))
  refine zCd [4,5,6,7,10,11,12,13,14,15,16,17,18,19,20,21,22,23,24,25,26,27,28,29,30,31,32,33,34,35,36,37,38,39,40,41] [4,5,10] (fun k vs w => ∃ (s : Nat) (av : Option Addr) (cv : Nat) (B M : List (Nat × Obj)), vs = [.slice av (fewTo d n s).1.length cv, .bool (fewTo d n s).2, .int .i64 s] ∧ s ≤ 1 <<< n ∧ k = (1 <<< n) - s ∧ Sl w0 B av 1 ((fewTo d n s).1.map fun x => [Value.int .i64 x]) ∧ I M ∧ St w0 w (B ++ (M ++ F))) (1 <<< n) ?_ ?_
  ·
   exact ⟨0, _,_, [], M, rfl, by omega, by omega, Sl.nil _ _, hI0, hs⟩
  intro k vs μ gw hI gx g6
  clear hs
  obtain ⟨s, av, cv, B, M, rfl, hba, rfl, hslv, hIM, hs⟩ := hI
  generalize hfd : (fewTo d n s).2 = fd
  refine zAg (fun gy gn => (zAc (w_p (zCl rfl rfl rfl rfl) rfl (zAe (zAd (gn _ _ (zAg (fun gz go => (zA1 rfl rfl (fun ga => ?_) (fun ga => ?_))))))))))
  ·
   try simp only [zS] at ga
   refine zAx (zAd (go _ _ (zAg (fun gA g7 => (zA8 ?_)))))
   refine zAg (fun gB gp => (zAc (zBe rfl rfl (zBs rfl rfl (zAe (zAd (gp _ _ (zAg (fun gC gq => (zAc (zBe rfl rfl (zBe rfl rfl (zAr zAb call67 rfl rfl rfl rfl (c67 _ _ (by omega) (by omega) hs) ?_)))))))))))))
   rintro _ gD ⟨B1, hown1, g0⟩
   replace g0 := (show St _ _ (B1 ++ (B ++ (M ++ (F)))) from g0)
   obtain ⟨a1, c1, rfl, hsl1, _, _⟩ := zG5 (w0 := w0) hown1
   have hle1 := zG6 s n
   have hle2 := few_len d n s
   refine w_p (zAo (v := .slice _ _ _) rfl rfl) rfl (zAe (zAd (gq _ _ (zAg (fun gE gb => (zAg (fun gF g9 => (zAc (w_p (zAi (v := .bool _) rfl rfl) rfl ?_)))))))))
   refine w_p (zAi (v := .bool _) rfl rfl) rfl (zBp (fun gc => ?_) (fun gc => ?_))
   ·
    subst gc
    refine w_y rfl rfl rfl (zAi (v := .slice _ _ _) rfl rfl) rfl ?_
    refine w_y rfl rfl rfl (zBo underlying35 rfl rfl) rfl ?_
    refine w_y rfl rfl rfl (zAi (v := .slice _ _ _) rfl rfl) rfl ?_
    refine w_y rfl rfl rfl (zBo underlying35 rfl rfl) rfl ?_
    refine w_y rfl rfl rfl (zEt rfl rfl rfl rfl) rfl ?_
    refine w_y rfl rfl rfl (zAi (v := .bool _) rfl rfl) rfl ?_
    refine zBp (fun gd => ?_) (fun gd => ?_)
    ·
     try simp only [zS] at gd
     refine zAj rfl rfl rfl ?_
     refine zAj rfl rfl rfl ?_
     refine zAj rfl rfl rfl ?_
     refine zAj rfl rfl rfl ?_
     refine zAj rfl rfl rfl ?_
     refine zAj rfl rfl rfl ?_
     refine zBi rfl rfl rfl ?_
     refine zBi rfl rfl rfl ?_
     refine zBi rfl rfl rfl ?_
     refine zBi rfl rfl rfl ?_
     refine zAj rfl rfl rfl ?_
     refine w_y rfl rfl rfl (zAv (v := _) rfl rfl rfl rfl) rfl ?_
     refine w_p (zAv (v := .bool _) rfl rfl rfl rfl) rfl (zAe (zAd (g9 _ _ (zC0 rfl rfl ?_))))
     refine zBy (zAq (zBc (zAd (g7 _ _ (zAc (w_p (zBq rfl rfl rfl rfl (by omega) (by omega)) rfl (zBe rfl rfl (zAe (zAd (g6 _ _ (nxI ((1 <<< n) - (s + 1)) (by omega) ?_)))))))))))
     first
       | (have hq := zDb hfd (by unfold before; simp; omega)
          exact ⟨s + 1, av, cv, B1 ++ B, M, zB9 (by rw [hq] <;> rfl) (by rw [hq, hfd] <;> rfl) rfl, by omega, rfl, by rw [hq]; exact hslv.app, hIM, (by rw [List.append_assoc]; exact g0)⟩)
       | (have hq := zDb hfd (by unfold before; rw [Bool.or_eq_true, Bool.and_eq_true]; exact .inr ⟨by simp; omega, by rw [← hz]; simp; omega⟩)
          exact ⟨s + 1, av, cv, B1 ++ B, M, zB9 (by rw [hq] <;> rfl) (by rw [hq, hfd] <;> rfl) rfl, by omega, rfl, by rw [hq]; exact hslv.app, hIM, (by rw [List.append_assoc]; exact g0)⟩)
       | (have hq := zF1 (d := d) (n := n) (s := s) (by first | exact .inl hfd | exact .inr (zBw (by omega) (by omega)) | exact .inr (zBw (by omega) (fun e => by rw [← hz]; exact decide_eq_false (by omega)))) (by assumption)
          exact ⟨s + 1, a1, c1, B1 ++ B, M2, zB9 (by rw [hq] <;> rfl) (by rw [hq] <;> rfl) rfl, by omega, rfl, by rw [hq]; exact hsl1.top, hIM2, (by rw [List.append_assoc]; exact g0)⟩)
       | (have hq := zH4 (d := d) (n := n) (s := s) (by first | exact .inl hfd | exact .inr (zBw (by omega) (by omega)) | exact .inr (zBw (by omega) (fun e => by rw [← hz]; exact decide_eq_false (by omega)))) (by assumption)
          exact ⟨s + 1, av, cv, B1 ++ B, M2, zB9 (by rw [hq] <;> rfl) (by rw [hq, hfd] <;> rfl) rfl, by omega, rfl, by rw [hq]; exact hslv.app, hIM2, (by rw [List.append_assoc]; exact g0)⟩)
    try simp only [zS] at gd
    refine w_y rfl rfl rfl (zAi (v := .slice _ _ _) rfl rfl) rfl ?_
    refine w_y rfl rfl rfl (zBo underlying35 rfl rfl) rfl ?_
    refine w_y rfl rfl rfl (zAi (v := .slice _ _ _) rfl rfl) rfl ?_
    refine w_y rfl rfl rfl (zBo underlying35 rfl rfl) rfl ?_
    refine w_y rfl rfl rfl (zB3 rfl rfl rfl rfl) rfl ?_
    refine w_y rfl rfl rfl (zAi (v := .bool _) rfl rfl) rfl ?_
    refine zBp (fun ge => ?_) (fun ge => ?_)
    ·
     try simp only [zS] at ge
     refine w_y rfl rfl rfl (zAi (v := .slice _ _ _) rfl rfl) rfl ?_
     refine w_y rfl rfl rfl (zAi (v := .slice _ _ _) rfl rfl) rfl ?_
     refine zAr (zAp rfl rfl rfl) call75 rfl rfl rfl rfl (c75 _ _ _ _ _ _ (by omega) (by omega) hsl1.top hslv.top.app g0) ?_
     rintro _ gG ⟨⟨z, rfl, hz⟩, g8⟩
     refine w_y rfl rfl rfl (zEt rfl rfl rfl rfl) rfl ?_
     refine w_y rfl rfl rfl (zAv (v := .bool _) rfl rfl rfl rfl) rfl ?_
     refine w_y rfl rfl rfl (zBg (v := .bool _) rfl rfl rfl rfl) rfl ?_
     refine w_p (zAv (v := .bool _) rfl rfl rfl rfl) rfl (zAe (zAd (g9 _ _ (zA1 rfl rfl (fun gf => ?_) (fun gf => ?_)))))
     ·
      try simp only [zS] at gf
      refine zBy (zAq (zBc (zAd (g7 _ _ (zAc (w_p (zBq rfl rfl rfl rfl (by omega) (by omega)) rfl (zBe rfl rfl (zAe (zAd (g6 _ _ (nxI ((1 <<< n) - (s + 1)) (by omega) ?_)))))))))))
      first
        | (have hq := zDb hfd (by unfold before; simp; omega)
           exact ⟨s + 1, av, cv, B1 ++ B, M, zB9 (by rw [hq] <;> rfl) (by rw [hq, hfd] <;> rfl) rfl, by omega, rfl, by rw [hq]; exact hslv.app, hIM, (by rw [List.append_assoc]; exact g8)⟩)
        | (have hq := zDb hfd (by unfold before; rw [Bool.or_eq_true, Bool.and_eq_true]; exact .inr ⟨by simp; omega, by rw [← hz]; simp; omega⟩)
           exact ⟨s + 1, av, cv, B1 ++ B, M, zB9 (by rw [hq] <;> rfl) (by rw [hq, hfd] <;> rfl) rfl, by omega, rfl, by rw [hq]; exact hslv.app, hIM, (by rw [List.append_assoc]; exact g8)⟩)
        | (have hq := zF1 (d := d) (n := n) (s := s) (by first | exact .inl hfd | exact .inr (zBw (by omega) (by omega)) | exact .inr (zBw (by omega) (fun e => by rw [← hz]; exact decide_eq_false (by omega)))) (by assumption)
           exact ⟨s + 1, a1, c1, B1 ++ B, M2, zB9 (by rw [hq] <;> rfl) (by rw [hq] <;> rfl) rfl, by omega, rfl, by rw [hq]; exact hsl1.top, hIM2, (by rw [List.append_assoc]; exact g8)⟩)
        | (have hq := zH4 (d := d) (n := n) (s := s) (by first | exact .inl hfd | exact .inr (zBw (by omega) (by omega)) | exact .inr (zBw (by omega) (fun e => by rw [← hz]; exact decide_eq_false (by omega)))) (by assumption)
           exact ⟨s + 1, av, cv, B1 ++ B, M2, zB9 (by rw [hq] <;> rfl) (by rw [hq, hfd] <;> rfl) rfl, by omega, rfl, by rw [hq]; exact hslv.app, hIM2, (by rw [List.append_assoc]; exact g8)⟩)
     try simp only [zS] at gf
     refine zAx (zAd (gb _ _ (zAg (fun gH gr => (zAc (w_p (zAi (v := fv) rfl rfl) rfl (zBe rfl rfl (zEc zAb rfl rfl rfl rfl (hd s M (B1 ++ B) _ (by omega) hIM (St.cast (by simp only [List.append_assoc]) g8)) ?_))))))))
     rintro _ gI ⟨rfl, M2, hIM2, g3⟩
     rw [List.append_assoc] at g3
     refine zAe (zAd (gr _ _ (zA1 rfl rfl (fun gg => ?_) (fun gg => ?_))))
     ·
      try simp only [zS] at gg
      refine zAc (w_p (zAi (v := .slice _ _ _) rfl rfl) rfl (w_p (zAo (v := .slice _ _ _) rfl rfl) rfl (zBj rfl rfl (zAe (zAn (zAd (g7 _ _ (zAc (w_p (zBq rfl rfl rfl rfl (by omega) (by omega)) rfl ?_)))))))))
      refine zBe rfl rfl (zAe (zAd (g6 _ _ (nxI ((1 <<< n) - (s + 1)) (by omega) ?_))))
      first
        | (have hq := zDb hfd (by unfold before; simp; omega)
           exact ⟨s + 1, av, cv, B1 ++ B, M, zB9 (by rw [hq] <;> rfl) (by rw [hq, hfd] <;> rfl) rfl, by omega, rfl, by rw [hq]; exact hslv.app, hIM, (by rw [List.append_assoc]; exact g3)⟩)
        | (have hq := zDb hfd (by unfold before; rw [Bool.or_eq_true, Bool.and_eq_true]; exact .inr ⟨by simp; omega, by rw [← hz]; simp; omega⟩)
           exact ⟨s + 1, av, cv, B1 ++ B, M, zB9 (by rw [hq] <;> rfl) (by rw [hq, hfd] <;> rfl) rfl, by omega, rfl, by rw [hq]; exact hslv.app, hIM, (by rw [List.append_assoc]; exact g3)⟩)
        | (have hq := zF1 (d := d) (n := n) (s := s) (by first | exact .inl hfd | exact .inr (zBw (by omega) (by omega)) | exact .inr (zBw (by omega) (fun e => by rw [← hz]; exact decide_eq_false (by omega)))) (by assumption)
           exact ⟨s + 1, a1, c1, B1 ++ B, M2, zB9 (by rw [hq] <;> rfl) (by rw [hq] <;> rfl) rfl, by omega, rfl, by rw [hq]; exact hsl1.top, hIM2, (by rw [List.append_assoc]; exact g3)⟩)
        | (have hq := zH4 (d := d) (n := n) (s := s) (by first | exact .inl hfd | exact .inr (zBw (by omega) (by omega)) | exact .inr (zBw (by omega) (fun e => by rw [← hz]; exact decide_eq_false (by omega)))) (by assumption)
           exact ⟨s + 1, av, cv, B1 ++ B, M2, zB9 (by rw [hq] <;> rfl) (by rw [hq, hfd] <;> rfl) rfl, by omega, rfl, by rw [hq]; exact hslv.app, hIM2, (by rw [List.append_assoc]; exact g3)⟩)
     try simp only [zS] at gg
     refine zAx (zAn (zAd (g7 _ _ (zAc (w_p (zBq rfl rfl rfl rfl (by omega) (by omega)) rfl (zBe rfl rfl (zAe (zAd (g6 _ _ (nxI ((1 <<< n) - (s + 1)) (by omega) ?_))))))))))
     first
       | (have hq := zDb hfd (by unfold before; simp; omega)
          exact ⟨s + 1, av, cv, B1 ++ B, M, zB9 (by rw [hq] <;> rfl) (by rw [hq, hfd] <;> rfl) rfl, by omega, rfl, by rw [hq]; exact hslv.app, hIM, (by rw [List.append_assoc]; exact g3)⟩)
       | (have hq := zDb hfd (by unfold before; rw [Bool.or_eq_true, Bool.and_eq_true]; exact .inr ⟨by simp; omega, by rw [← hz]; simp; omega⟩)
          exact ⟨s + 1, av, cv, B1 ++ B, M, zB9 (by rw [hq] <;> rfl) (by rw [hq, hfd] <;> rfl) rfl, by omega, rfl, by rw [hq]; exact hslv.app, hIM, (by rw [List.append_assoc]; exact g3)⟩)
       | (have hq := zF1 (d := d) (n := n) (s := s) (by first | exact .inl hfd | exact .inr (zBw (by omega) (by omega)) | exact .inr (zBw (by omega) (fun e => by rw [← hz]; exact decide_eq_false (by omega)))) (by assumption)
          exact ⟨s + 1, a1, c1, B1 ++ B, M2, zB9 (by rw [hq] <;> rfl) (by rw [hq] <;> rfl) rfl, by omega, rfl, by rw [hq]; exact hsl1.top, hIM2, (by rw [List.append_assoc]; exact g3)⟩)
       | (have hq := zH4 (d := d) (n := n) (s := s) (by first | exact .inl hfd | exact .inr (zBw (by omega) (by omega)) | exact .inr (zBw (by omega) (fun e => by rw [← hz]; exact decide_eq_false (by omega)))) (by assumption)
          exact ⟨s + 1, av, cv, B1 ++ B, M2, zB9 (by rw [hq] <;> rfl) (by rw [hq, hfd] <;> rfl) rfl, by omega, rfl, by rw [hq]; exact hslv.app, hIM2, (by rw [List.append_assoc]; exact g3)⟩)
    try simp only [zS] at ge
    refine zAj rfl rfl rfl ?_
    refine zAj rfl rfl rfl ?_
    refine zAj rfl rfl rfl ?_
    refine zAj rfl rfl rfl ?_
    refine w_y rfl rfl rfl (zBg (v := _) rfl rfl rfl rfl) rfl ?_
    refine w_y rfl rfl rfl (zBg (v := .bool _) rfl rfl rfl rfl) rfl ?_
    refine w_p (zAv (v := .bool _) rfl rfl rfl rfl) rfl (zAe (zAd (g9 _ _ (zB7 rfl rfl ?_))))
    refine zAx (zAd (gb _ _ (zAg (fun gJ gt => (zAc (w_p (zAi (v := fv) rfl rfl) rfl (zBe rfl rfl (zEc zAb rfl rfl rfl rfl (hd s M (B1 ++ B) _ (by omega) hIM (St.cast (by simp only [List.append_assoc]) g0)) ?_))))))))
    rintro _ gK ⟨rfl, M2, hIM2, g4⟩
    rw [List.append_assoc] at g4
    refine zAe (zAd (gt _ _ (zA1 rfl rfl (fun gh => ?_) (fun gh => ?_))))
    ·
     try simp only [zS] at gh
     refine zAc (w_p (zAi (v := .slice _ _ _) rfl rfl) rfl (w_p (zAo (v := .slice _ _ _) rfl rfl) rfl (zBj rfl rfl (zAe (zAn (zAd (g7 _ _ (zAc (w_p (zBq rfl rfl rfl rfl (by omega) (by omega)) rfl ?_)))))))))
     refine zBe rfl rfl (zAe (zAd (g6 _ _ (nxI ((1 <<< n) - (s + 1)) (by omega) ?_))))
     first
       | (have hq := zDb hfd (by unfold before; simp; omega)
          exact ⟨s + 1, av, cv, B1 ++ B, M, zB9 (by rw [hq] <;> rfl) (by rw [hq, hfd] <;> rfl) rfl, by omega, rfl, by rw [hq]; exact hslv.app, hIM, (by rw [List.append_assoc]; exact g4)⟩)
       | (have hq := zDb hfd (by unfold before; rw [Bool.or_eq_true, Bool.and_eq_true]; exact .inr ⟨by simp; omega, by rw [← hz]; simp; omega⟩)
          exact ⟨s + 1, av, cv, B1 ++ B, M, zB9 (by rw [hq] <;> rfl) (by rw [hq, hfd] <;> rfl) rfl, by omega, rfl, by rw [hq]; exact hslv.app, hIM, (by rw [List.append_assoc]; exact g4)⟩)
       | (have hq := zF1 (d := d) (n := n) (s := s) (by first | exact .inl hfd | exact .inr (zBw (by omega) (by omega)) | exact .inr (zBw (by omega) (fun e => by rw [← hz]; exact decide_eq_false (by omega)))) (by assumption)
          exact ⟨s + 1, a1, c1, B1 ++ B, M2, zB9 (by rw [hq] <;> rfl) (by rw [hq] <;> rfl) rfl, by omega, rfl, by rw [hq]; exact hsl1.top, hIM2, (by rw [List.append_assoc]; exact g4)⟩)
       | (have hq := zH4 (d := d) (n := n) (s := s) (by first | exact .inl hfd | exact .inr (zBw (by omega) (by omega)) | exact .inr (zBw (by omega) (fun e => by rw [← hz]; exact decide_eq_false (by omega)))) (by assumption)
          exact ⟨s + 1, av, cv, B1 ++ B, M2, zB9 (by rw [hq] <;> rfl) (by rw [hq, hfd] <;> rfl) rfl, by omega, rfl, by rw [hq]; exact hslv.app, hIM2, (by rw [List.append_assoc]; exact g4)⟩)
    try simp only [zS] at gh
    refine zAx (zAn (zAd (g7 _ _ (zAc (w_p (zBq rfl rfl rfl rfl (by omega) (by omega)) rfl (zBe rfl rfl (zAe (zAd (g6 _ _ (nxI ((1 <<< n) - (s + 1)) (by omega) ?_))))))))))
    first
      | (have hq := zDb hfd (by unfold before; simp; omega)
         exact ⟨s + 1, av, cv, B1 ++ B, M, zB9 (by rw [hq] <;> rfl) (by rw [hq, hfd] <;> rfl) rfl, by omega, rfl, by rw [hq]; exact hslv.app, hIM, (by rw [List.append_assoc]; exact g4)⟩)
      | (have hq := zDb hfd (by unfold before; rw [Bool.or_eq_true, Bool.and_eq_true]; exact .inr ⟨by simp; omega, by rw [← hz]; simp; omega⟩)
         exact ⟨s + 1, av, cv, B1 ++ B, M, zB9 (by rw [hq] <;> rfl) (by rw [hq, hfd] <;> rfl) rfl, by omega, rfl, by rw [hq]; exact hslv.app, hIM, (by rw [List.append_assoc]; exact g4)⟩)
      | (have hq := zF1 (d := d) (n := n) (s := s) (by first | exact .inl hfd | exact .inr (zBw (by omega) (by omega)) | exact .inr (zBw (by omega) (fun e => by rw [← hz]; exact decide_eq_false (by omega)))) (by assumption)
         exact ⟨s + 1, a1, c1, B1 ++ B, M2, zB9 (by rw [hq] <;> rfl) (by rw [hq] <;> rfl) rfl, by omega, rfl, by rw [hq]; exact hsl1.top, hIM2, (by rw [List.append_assoc]; exact g4)⟩)
      | (have hq := zH4 (d := d) (n := n) (s := s) (by first | exact .inl hfd | exact .inr (zBw (by omega) (by omega)) | exact .inr (zBw (by omega) (fun e => by rw [← hz]; exact decide_eq_false (by omega)))) (by assumption)
         exact ⟨s + 1, av, cv, B1 ++ B, M2, zB9 (by rw [hq] <;> rfl) (by rw [hq, hfd] <;> rfl) rfl, by omega, rfl, by rw [hq]; exact hslv.app, hIM2, (by rw [List.append_assoc]; exact g4)⟩)
   subst gc
   refine zAj rfl rfl rfl ?_
   refine zAj rfl rfl rfl ?_
   refine zAj rfl rfl rfl ?_
   refine zAj rfl rfl rfl ?_
   refine zAj rfl rfl rfl ?_
   refine zAj rfl rfl rfl ?_
   refine zBi rfl rfl rfl ?_
   refine zBi rfl rfl rfl ?_
   refine zBi rfl rfl rfl ?_
   refine zBi rfl rfl rfl ?_
   refine zBi rfl rfl rfl ?_
   refine zBi rfl rfl rfl ?_
   refine zBi rfl rfl rfl ?_
   refine zBi rfl rfl rfl ?_
   refine zBi rfl rfl rfl ?_
   refine zBi rfl rfl rfl ?_
   refine zBi rfl rfl rfl ?_
   refine zAj rfl rfl rfl ?_
   refine w_p (zBg (v := _) rfl rfl rfl rfl) rfl (zAe (zAd (g9 _ _ (zB7 rfl rfl ?_))))
   refine zAx (zAd (gb _ _ (zAg (fun gL gu => (zAc (w_p (zAi (v := fv) rfl rfl) rfl (zBe rfl rfl (zEc zAb rfl rfl rfl rfl (hd s M (B1 ++ B) _ (by omega) hIM (St.cast (by simp only [List.append_assoc]) g0)) ?_))))))))
   rintro _ gM ⟨rfl, M2, hIM2, g5⟩
   rw [List.append_assoc] at g5
   refine zAe (zAd (gu _ _ (zA1 rfl rfl (fun gi => ?_) (fun gi => ?_))))
   ·
    try simp only [zS] at gi
    refine zAc (w_p (zAi (v := .slice _ _ _) rfl rfl) rfl (w_p (zAo (v := .slice _ _ _) rfl rfl) rfl (zBj rfl rfl (zAe (zAn (zAd (g7 _ _ (zAc (w_p (zBq rfl rfl rfl rfl (by omega) (by omega)) rfl ?_)))))))))
    refine zBe rfl rfl (zAe (zAd (g6 _ _ (nxI ((1 <<< n) - (s + 1)) (by omega) ?_))))
    first
      | (have hq := zDb hfd (by unfold before; simp; omega)
         exact ⟨s + 1, av, cv, B1 ++ B, M, zB9 (by rw [hq] <;> rfl) (by rw [hq, hfd] <;> rfl) rfl, by omega, rfl, by rw [hq]; exact hslv.app, hIM, (by rw [List.append_assoc]; exact g5)⟩)
      | (have hq := zDb hfd (by unfold before; rw [Bool.or_eq_true, Bool.and_eq_true]; exact .inr ⟨by simp; omega, by rw [← hz]; simp; omega⟩)
         exact ⟨s + 1, av, cv, B1 ++ B, M, zB9 (by rw [hq] <;> rfl) (by rw [hq, hfd] <;> rfl) rfl, by omega, rfl, by rw [hq]; exact hslv.app, hIM, (by rw [List.append_assoc]; exact g5)⟩)
      | (have hq := zF1 (d := d) (n := n) (s := s) (by first | exact .inl hfd | exact .inr (zBw (by omega) (by omega)) | exact .inr (zBw (by omega) (fun e => by rw [← hz]; exact decide_eq_false (by omega)))) (by assumption)
         exact ⟨s + 1, a1, c1, B1 ++ B, M2, zB9 (by rw [hq] <;> rfl) (by rw [hq] <;> rfl) rfl, by omega, rfl, by rw [hq]; exact hsl1.top, hIM2, (by rw [List.append_assoc]; exact g5)⟩)
      | (have hq := zH4 (d := d) (n := n) (s := s) (by first | exact .inl hfd | exact .inr (zBw (by omega) (by omega)) | exact .inr (zBw (by omega) (fun e => by rw [← hz]; exact decide_eq_false (by omega)))) (by assumption)
         exact ⟨s + 1, av, cv, B1 ++ B, M2, zB9 (by rw [hq] <;> rfl) (by rw [hq, hfd] <;> rfl) rfl, by omega, rfl, by rw [hq]; exact hslv.app, hIM2, (by rw [List.append_assoc]; exact g5)⟩)
   try simp only [zS] at gi
   refine zAx (zAn (zAd (g7 _ _ (zAc (w_p (zBq rfl rfl rfl rfl (by omega) (by omega)) rfl (zBe rfl rfl (zAe (zAd (g6 _ _ (nxI ((1 <<< n) - (s + 1)) (by omega) ?_))))))))))
   first
     | (have hq := zDb hfd (by unfold before; simp; omega)
        exact ⟨s + 1, av, cv, B1 ++ B, M, zB9 (by rw [hq] <;> rfl) (by rw [hq, hfd] <;> rfl) rfl, by omega, rfl, by rw [hq]; exact hslv.app, hIM, (by rw [List.append_assoc]; exact g5)⟩)
     | (have hq := zDb hfd (by unfold before; rw [Bool.or_eq_true, Bool.and_eq_true]; exact .inr ⟨by simp; omega, by rw [← hz]; simp; omega⟩)
        exact ⟨s + 1, av, cv, B1 ++ B, M, zB9 (by rw [hq] <;> rfl) (by rw [hq, hfd] <;> rfl) rfl, by omega, rfl, by rw [hq]; exact hslv.app, hIM, (by rw [List.append_assoc]; exact g5)⟩)
     | (have hq := zF1 (d := d) (n := n) (s := s) (by first | exact .inl hfd | exact .inr (zBw (by omega) (by omega)) | exact .inr (zBw (by omega) (fun e => by rw [← hz]; exact decide_eq_false (by omega)))) (by assumption)
        exact ⟨s + 1, a1, c1, B1 ++ B, M2, zB9 (by rw [hq] <;> rfl) (by rw [hq] <;> rfl) rfl, by omega, rfl, by rw [hq]; exact hsl1.top, hIM2, (by rw [List.append_assoc]; exact g5)⟩)
     | (have hq := zH4 (d := d) (n := n) (s := s) (by first | exact .inl hfd | exact .inr (zBw (by omega) (by omega)) | exact .inr (zBw (by omega) (fun e => by rw [← hz]; exact decide_eq_false (by omega)))) (by assumption)
        exact ⟨s + 1, av, cv, B1 ++ B, M2, zB9 (by rw [hq] <;> rfl) (by rw [hq, hfd] <;> rfl) rfl, by omega, rfl, by rw [hq]; exact hslv.app, hIM2, (by rw [List.append_assoc]; exact g5)⟩)
  try simp only [zS] at ga
  refine zBy (zAq (zAq (zBc (zAd (gl _ _ (zAg (fun gN gv => (zAc (w_p (zAi (v := .slice _ _ _) rfl rfl) rfl (w_p (zAo (v := .slice _ _ _) rfl rfl) rfl ?_))))))))))
  refine zAe (zAd (gv _ _ (zA7 (zBa (l := [.tmp 4]) (vs := [_]) rfl ⟨⟨rfl, show _ = (.slice _ _ _ : Value) from rfl⟩, trivial⟩ ?_))))
  have hin : s = 1 <<< n := by omega
  subst hin
  exact ⟨B, M, av, cv, rfl, hslv, hIM, hs⟩

end Go.Proofs.Ut
/- The walking engine, part 21: regions that draw their order, where up to four operations can come: all ways are walked; a state that is reached in several ways is proved once. No conditions. -/
namespace Go.Rt
open Go.RowKit
variable {r : Option Nat} {P : Program} {ops : Array Oper} {K K' : Act → World → Prop} {n : Nat} {ρ : Nat → Value} {ds : List Deferred} {w w0 : World} {L : List (Nat × Obj)}
inductive OF where
  | done (pre : List (Nat × Nat))
  | one (pre : List (Nat × Nat)) (i : Nat) (a : OF)
  | two (pre : List (Nat × Nat)) (i j : Nat) (a b : OF)
  | three (pre : List (Nat × Nat)) (i j k : Nat) (a b c : OF)
  | four (pre : List (Nat × Nat)) (i j k m : Nat) (a b c d : OF)
def OF.len : OF → Nat
  | .done pre => pre.length
  | .one pre _ a => pre.length + (a.len + 1)
  | .two pre _ _ a _ => pre.length + (a.len + 1)
  | .three pre _ _ _ a _ _ => pre.length + (a.len + 1)
  | .four pre _ _ _ _ a _ _ _ => pre.length + (a.len + 1)
def drawF (ops : Array Oper) (late : List Nat) : OF → Array Bool → Bool
  | .done pre, l => drawE ops late (fun l => (Region.ready .any ops l).isEmpty) pre l
  | .one pre i a, l => drawE ops late (fun l => Region.ready .any ops l == [i] && !late.contains i && drawF ops late a (l.setIfInBounds i true)) pre l
  | .two pre i j a b, l => drawE ops late (fun l => Region.ready .any ops l == [i, j] && !late.contains i && !late.contains j && Nat.beq a.len b.len && drawF ops late a (l.setIfInBounds i true) && drawF ops late b (l.setIfInBounds j true)) pre l
  | .three pre i j k a b c, l => drawE ops late (fun l => Region.ready .any ops l == [i, j, k] && !late.contains i && !late.contains j && !late.contains k && Nat.beq a.len b.len && Nat.beq a.len c.len && drawF ops late a (l.setIfInBounds i true) && drawF ops late b (l.setIfInBounds j true) && drawF ops late c (l.setIfInBounds k true)) pre l
  | .four pre i j k m a b c d, l => drawE ops late (fun l => Region.ready .any ops l == [i, j, k, m] && !late.contains i && !late.contains j && !late.contains k && !late.contains m && Nat.beq a.len b.len && Nat.beq a.len c.len && Nat.beq a.len d.len && drawF ops late a (l.setIfInBounds i true) && drawF ops late b (l.setIfInBounds j true) && drawF ops late c (l.setIfInBounds k true) && drawF ops late d (l.setIfInBounds m true)) pre l
def DO (r : Option Nat) (P : Program) (ops : Array Oper) (X : Act → World → Prop) (C : World → Prop) (i : Nat) (a : Act) (w : World) : Prop := ∃ o, ops[i]? = some o ∧ WL r P ops (Qn fun a' w' => C w' ∧ X a' w') [o] a w
def DF (r : Option Nat) (P : Program) (ops : Array Oper) (K : Act → World → Prop) (C : World → Prop) : OF → Act → World → Prop
  | .done pre => DW r P ops K C pre
  | .one pre i x => DW r P ops (DO r P ops (DF r P ops K C x) C i) C pre
  | .two pre i j x y => DW r P ops (fun a w => DO r P ops (DF r P ops K C x) C i a w ∧ DO r P ops (DF r P ops K C y) C j a w) C pre
  | .three pre i j k x y z => DW r P ops (fun a w => DO r P ops (DF r P ops K C x) C i a w ∧ DO r P ops (DF r P ops K C y) C j a w ∧ DO r P ops (DF r P ops K C z) C k a w) C pre
  | .four pre i j k m x y z u => DW r P ops (fun a w => DO r P ops (DF r P ops K C x) C i a w ∧ DO r P ops (DF r P ops K C y) C j a w ∧ DO r P ops (DF r P ops K C z) C k a w ∧ DO r P ops (DF r P ops K C u) C m a w) C pre
theorem zDo {C : World → Prop} {late : List Nat} (hns : Region.noSelect ops = true) (hnd : noDefer ops = true) : ∀ (T : OF) (l : Array Bool) (a : Act) (w : World), l.size = ops.size → drawF ops late T l = true →
    (badB late l = false → C w) → DF r P ops K C T a w → wAH r P ops K (fun l w => badB late l = false → C w) T.len l a w
  | .done pre, l, a, w, hsz, hB, hC, h => by
    refine zD0 (m := 0) (e := fun l => (Region.ready .any ops l).isEmpty) hns hnd ?_ pre l a w hsz hB hC h
    intro l' a' w' _ he _ hk
    exact ⟨by simpa using he, hk⟩
  | .one pre i x, l, a, w, hsz, hB, hC, h => by
    refine zD0 (m := x.len + 1) hns hnd ?_ pre l a w hsz hB hC h
    intro l' a' w' hsz' he hC' hk
    simp only [Bool.and_eq_true, Bool.not_eq_true', beq_iff_eq] at he
    obtain ⟨⟨h1, h2⟩, h5⟩ := he
    obtain ⟨o1, ho1, hw1⟩ := hk
    refine ⟨fun h0 => (by rw [h1] at h0; cases h0), fun q hq => ?_⟩
    rw [h1, List.mem_singleton] at hq
    subst hq
    exact wpOpIn_mono (fun a'' w'' h' => ⟨fun _ => h'.1, zDo hns hnd x _ a'' w'' (by simpa using hsz') h5 (fun _ => h'.1) h'.2⟩) (zEe (K := K) ho1 hw1)
  | .two pre i j x y, l, a, w, hsz, hB, hC, h => by
    refine zD0 (m := x.len + 1) hns hnd ?_ pre l a w hsz hB hC h
    intro l' a' w' hsz' he hC' hk
    simp only [Bool.and_eq_true, Bool.not_eq_true', beq_iff_eq] at he
    obtain ⟨⟨⟨⟨⟨h1, h2⟩, h3⟩, h4⟩, h5⟩, h6⟩ := he
    obtain ⟨⟨o1, ho1, hw1⟩, ⟨o2, ho2, hw2⟩⟩ := hk
    have hy : y.len = x.len := (Nat.eq_of_beq_eq_true h4).symm
    refine ⟨fun h0 => (by rw [h1] at h0; cases h0), fun q hq => ?_⟩
    rw [h1] at hq
    simp only [List.mem_cons, List.not_mem_nil, or_false] at hq
    rcases hq with rfl | rfl
    · exact wpOpIn_mono (fun a'' w'' h' => ⟨fun _ => h'.1, zDo hns hnd x _ a'' w'' (by simpa using hsz') h5 (fun _ => h'.1) h'.2⟩) (zEe (K := K) ho1 hw1)
    · exact wpOpIn_mono (fun a'' w'' h' => ⟨fun _ => h'.1, by rw [← hy]; exact zDo hns hnd y _ a'' w'' (by simpa using hsz') h6 (fun _ => h'.1) h'.2⟩) (zEe (K := K) ho2 hw2)
  | .three pre i j k x y z, l, a, w, hsz, hB, hC, h => by
    refine zD0 (m := x.len + 1) hns hnd ?_ pre l a w hsz hB hC h
    intro l' a' w' hsz' he hC' hk
    simp only [Bool.and_eq_true, Bool.not_eq_true', beq_iff_eq] at he
    obtain ⟨⟨⟨⟨⟨⟨⟨⟨h1, _⟩, _⟩, _⟩, h4⟩, h4'⟩, h5⟩, h6⟩, h7⟩ := he
    obtain ⟨⟨o1, ho1, hw1⟩, ⟨o2, ho2, hw2⟩, ⟨o3, ho3, hw3⟩⟩ := hk
    have hy : y.len = x.len := (Nat.eq_of_beq_eq_true h4).symm
    have hz : z.len = x.len := (Nat.eq_of_beq_eq_true h4').symm
    refine ⟨fun h0 => (by rw [h1] at h0; cases h0), fun q hq => ?_⟩
    rw [h1] at hq
    simp only [List.mem_cons, List.not_mem_nil, or_false] at hq
    rcases hq with rfl | rfl | rfl
    · exact wpOpIn_mono (fun a'' w'' h' => ⟨fun _ => h'.1, zDo hns hnd x _ a'' w'' (by simpa using hsz') h5 (fun _ => h'.1) h'.2⟩) (zEe (K := K) ho1 hw1)
    · exact wpOpIn_mono (fun a'' w'' h' => ⟨fun _ => h'.1, by rw [← hy]; exact zDo hns hnd y _ a'' w'' (by simpa using hsz') h6 (fun _ => h'.1) h'.2⟩) (zEe (K := K) ho2 hw2)
    · exact wpOpIn_mono (fun a'' w'' h' => ⟨fun _ => h'.1, by rw [← hz]; exact zDo hns hnd z _ a'' w'' (by simpa using hsz') h7 (fun _ => h'.1) h'.2⟩) (zEe (K := K) ho3 hw3)
  | .four pre i j k m x y z u, l, a, w, hsz, hB, hC, h => by
    refine zD0 (m := x.len + 1) hns hnd ?_ pre l a w hsz hB hC h
    intro l' a' w' hsz' he hC' hk
    simp only [Bool.and_eq_true, Bool.not_eq_true', beq_iff_eq] at he
    obtain ⟨⟨⟨⟨⟨⟨⟨⟨⟨⟨⟨h1, _⟩, _⟩, _⟩, _⟩, h4⟩, h4'⟩, h4''⟩, h5⟩, h6⟩, h7⟩, h8⟩ := he
    obtain ⟨⟨o1, ho1, hw1⟩, ⟨o2, ho2, hw2⟩, ⟨o3, ho3, hw3⟩, ⟨o4, ho4, hw4⟩⟩ := hk
    have hy : y.len = x.len := (Nat.eq_of_beq_eq_true h4).symm
    have hz : z.len = x.len := (Nat.eq_of_beq_eq_true h4').symm
    have hu : u.len = x.len := (Nat.eq_of_beq_eq_true h4'').symm
    refine ⟨fun h0 => (by rw [h1] at h0; cases h0), fun q hq => ?_⟩
    rw [h1] at hq
    simp only [List.mem_cons, List.not_mem_nil, or_false] at hq
    rcases hq with rfl | rfl | rfl | rfl
    · exact wpOpIn_mono (fun a'' w'' h' => ⟨fun _ => h'.1, zDo hns hnd x _ a'' w'' (by simpa using hsz') h5 (fun _ => h'.1) h'.2⟩) (zEe (K := K) ho1 hw1)
    · exact wpOpIn_mono (fun a'' w'' h' => ⟨fun _ => h'.1, by rw [← hy]; exact zDo hns hnd y _ a'' w'' (by simpa using hsz') h6 (fun _ => h'.1) h'.2⟩) (zEe (K := K) ho2 hw2)
    · exact wpOpIn_mono (fun a'' w'' h' => ⟨fun _ => h'.1, by rw [← hz]; exact zDo hns hnd z _ a'' w'' (by simpa using hsz') h7 (fun _ => h'.1) h'.2⟩) (zEe (K := K) ho3 hw3)
    · exact wpOpIn_mono (fun a'' w'' h' => ⟨fun _ => h'.1, by rw [← hu]; exact zDo hns hnd u _ a'' w'' (by simpa using hsz') h8 (fun _ => h'.1) h'.2⟩) (zEe (K := K) ho4 hw4)
def drawFOK (ops : Array Oper) (late : List Nat) (T : OF) : Bool := Region.noSelect ops && noDefer ops && Nat.beq T.len ops.size && drawF ops late T (Array.replicate ops.size false)
theorem w_drawF {id : Nat} {l : List Oper} {Q : Exit → Act → World → Prop} {C : World → Prop} (late : List Nat) (T : OF) (hm : P.follows .mixedOrders = true) (hB : drawFOK l.toArray late T = true) (hC : C w)
    (hdrew : ∀ w, C w → C { w with drawn := w.drawn + 1 }) (h : ∀ w', C w' → DF r P l.toArray (fun a w => Q .normal a w) C T (A n ρ ds) w') : WC r P (.region id l.toArray true) Q (A n ρ ds) w := by
  unfold drawFOK at hB
  simp only [Bool.and_eq_true] at hB
  obtain ⟨⟨⟨h1, h2⟩, h3⟩, h4⟩ := hB
  have hst' := hdrew _ hC
  have hsz : T.len = l.toArray.size := Nat.eq_of_beq_eq_true h3
  have := zDo h1 h2 T (Array.replicate l.toArray.size false) (A n ρ ds) _ (by simp) h4 (fun _ => hst') (h _ hst')
  have hany := zD6 _ _ _ _ this
  rw [hsz] at hany
  refine wpIn_mono (wpIn_region_any hm hany) ?_
  intro e a w hq
  cases e <;> first | exact hq | exact hq.elim
theorem zDm {X : Act → World → Prop} {C : World → Prop} {i : Nat} {a : Act} {o : Oper} (h : ops[i]? = some o) (hw : WL r P ops (Qn fun a' w' => C w' ∧ X a' w') [o] a w) : DO r P ops X C i a w := ⟨o, h, hw⟩
end Go.Rt
