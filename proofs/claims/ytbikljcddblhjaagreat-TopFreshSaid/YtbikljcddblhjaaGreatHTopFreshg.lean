/- Own texts of this claim, joined. No conditions. -/
import Derived.Test.YtbikljcddblhjaaGreatHTopFresha
import Derived.Test.YtbikljcddblhjaaGreatHTopFreshb
import Derived.Test.YtbikljcddblhjaaGreatHTopFreshc
import Derived.Test.YtbikljcddblhjaaGreatHTopFreshd
import Derived.Test.YtbikljcddblhjaaGreatHTopFreshe
import Derived.Test.YtbikljcddblhjaaGreatHTopFreshf
set_option linter.unusedVariables false
set_option linter.unusedSimpArgs false
set_option maxRecDepth 20000
namespace Go.Proofs.Ut
open Go.Proofs.Tryz
open Go.Rt Go.Rt.Tu
open Go.Rt.Ha (firstE zCf zBu zB1 failE felt spanL upto zC1 listL fewest fewTo bit Bunch before fewStep zCm zDd zCc zCx zC6 zCw zB8)
attribute [local irreducible] WL WC Con Yd At Ats Sl Agree DW
theorem Try_UN_fb3 (x0 : Go.Fn) (a0 c0 : Array Value) (w : World) : (Instr.build 82 [(0, .func x0 a0 c0)].toArray).run Tryz.prog w = .ok (.agg #[.func x0 a0 c0]) w := by kernel_rfl
theorem zCz (x0 : Int) (w : World) : (Instr.buildSlice 35 1 [(0, .int .i64 x0)].toArray).run Tryz.prog w = .ok (.slice (some ⟨w.heap.size, 0, none⟩) 1 1) (w.alloc (Go.Rt.blk 3 [.int .i64 x0])) := by kernel_rfl
theorem zCk (x0 : Bool) (x1 : Int) (x2 : Bool) (x3 : Int) (w : World) : (Instr.buildSlice 121 2 [(0, .agg #[.bool x0, .int .i64 x1]),(1, .agg #[.bool x2, .int .i64 x3])].toArray).run Tryz.prog w = .ok (.slice (some ⟨w.heap.size, 0, none⟩) 2 2) (w.alloc (Go.Rt.blk 73 [.bool x0, .int .i64 x1, .bool x2, .int .i64 x3])) := by kernel_rfl
theorem _root_.Go.Rt.Ats.top {w0 : World} {B F : List (Nat × Obj)} {b off : Nat} {vs : List Value} (h : Ats w0 B b off vs) : Ats w0 (B ++ F) b off vs := h.mono fun _ h => h.front
theorem out_y {c : Cargo} {until_ z : Int} {t : List Int} {i : Nat} (hz : z = (i : Int)) (hi : i < c.lots.length) (h : ¬ c.lots[i].frm ≤ until_ ∨ ¬ t.getD i 0 ≤ until_) : (!(decide ((lotAt c z.toNat).frm ≤ until_) && decide (t.getD z.toNat 0 ≤ until_))) = true := by
  subst hz
  rw [show ((i : Int)).toNat = i from rfl, zD1 hi]
  rcases h with h | h
  · rw [decide_eq_false h]; rfl
  · rw [decide_eq_false h, Bool.and_false]; rfl
theorem out_n {c : Cargo} {until_ z : Int} {t : List Int} {i : Nat} (hz : z = (i : Int)) (hi : i < c.lots.length) (h : c.lots[i].frm ≤ until_) (h2 : t.getD i 0 ≤ until_) : (!(decide ((lotAt c z.toNat).frm ≤ until_) && decide (t.getD z.toNat 0 ≤ until_))) = false := by
  subst hz
  rw [show ((i : Int)).toNat = i from rfl, zD1 hi, decide_eq_true h, decide_eq_true h2]; rfl
theorem zIq {α : Type} {p : α → Bool} {l : List α} {j : Nat} (hj : j < l.length) (h : (l.take j).all p = true) (h2 : p l[j] = true) : (l.take (j + 1)).all p = true := by
  rw [List.take_succ_eq_append_getElem hj, List.all_append, h]; simp [h2]
theorem all_not {α : Type} {p : α → Bool} {l : List α} {j : Nat} (hj : j < l.length) (h2 : p l[j] = false) : false = l.all p := by
  symm; rw [List.all_eq_false]; exact ⟨l[j], List.getElem_mem hj, by simp [h2]⟩
theorem outS_1 {c : Cargo} {n set : Nat} {u : Int} (h : ((bitDiff set (ofH c (n : Int)) : Nat) : Int) = 0) : decide (Tu.ask c n (outQ c set u) = 1) = outS c n u set := by unfold outS; rw [decide_eq_true (p := bitDiff set (ofH c (n : Int)) = 0) (by omega)]; rfl
theorem outS_0 {c : Cargo} {n set : Nat} {u : Int} (h : ¬ ((bitDiff set (ofH c (n : Int)) : Nat) : Int) = 0) : false = outS c n u set := by unfold outS; rw [decide_eq_false (p := bitDiff set (ofH c (n : Int)) = 0) (by omega)]; rfl
theorem outP_e {c : Cargo} {a b : Int} (h : ¬ enterE c (outL c a b) = 0) : outP c a b = ([], enterE c (outL c a b)) := by unfold outP; rw [if_pos h]
theorem outP_y {c : Cargo} {a b : Int} (h : enterE c (outL c a b) = 0) : outP c a b = ((fewest (outS c a.toNat b) c.lots.length).1,0) := by unfold outP; rw [if_neg (by simp [h])]
theorem wrongP_e {c : Cargo} (h : ¬ (check c).2.2 = 0) : wrongP c = ([], (check c).2.2) := by unfold wrongP; rw [if_pos h]
theorem wrongP_y {c : Cargo} (h : (check c).2.2 = 0) : wrongP c = ((fewest (someB c) c.seen.length).1,0) := by unfold wrongP; rw [if_neg (by simp [h])]
theorem c66 {w0 w : World} {X M F : List (Nat × Obj)} (c : Cargo) (p : AtT) (cb mm : Nat) (hk : CK w0 F c p 0 cb mm) (hco : c.Ok) (set : Nat) (hset : set < 16) (until_ : Int) (b2 b3 b4 b5 : Nat) (h2 : Ats w0 F b2 0 [.int .i64 (set : Int)]) (h3 : Ats w0 F b3 0 [.pointer (some ⟨cb, 0, none⟩)]) (h4 : Ats w0 F b4 0 (c.cells p)) (h5 : Ats w0 F b5 0 [.int .i64 until_]) (s : List Int) (hso : SOk s) (hM : Memo c mm M) (hs : St w0 w (X ++ (M ++ F))) :
  Con Tryz.prog 66 [ia s, ia (times c s), .pointer (some ⟨b2,0, none⟩), .pointer (some ⟨b3,0, none⟩), .pointer (some ⟨b4,0, none⟩), .pointer (some ⟨b5,0, none⟩)] w fun v w' => v = .bool (outQ c set until_ s) ∧ ∃ M', Memo c mm M' ∧ St w0 w' (X ++ (M' ++ F)) := by
  refine zAu (n := 47) func66 rfl rfl (zNl rfl) ?_
  have hls := hso.len
  have htl := zBf c s
  have htt := hso.tt
  have hsw := zGl hso set
  have hwl := hsw.len
  have hwt := hsw.tt
  have htw := zBf c (without s set)
  have hlo := hco.ll
  refine zAg (fun K2 gg => (zAc (zDu (l := _) zAb rfl rfl rfl hs (fun b3 w4 gh => ?_))))
  refine zDu (l := _) zAb rfl rfl rfl gh (fun b6 w7 g4 => ?_)
  refine zBj rfl rfl (zAe (zAd (gg _ _ (zAg (fun gu gi => (zAc (w_p (zAf (o := 7) (i := 3) underlying79 rfl sizeOf3 rfl rfl rfl) rfl (w_p (zAk isAgg3 g4 rfl rfl (zD5 (i := 1) (o := 7) rfl (by first | omega | rfl | (simp only [hls, zBf, zL] <;> omega)))) rfl ?_))))))))
  refine w_p (zAk isAgg3 g4.tail.tail.drop.drop rfl rfl h2) rfl (w_p (y_andNot (x := tt s) (y := set) rfl rfl rfl rfl (by first | rfl | omega) (by first | rfl | omega) (by first | omega | exact zDe (by omega))) rfl ?_)
  refine w_p (zAf (o := 7) (i := 3) underlying79 rfl sizeOf3 rfl rfl rfl) rfl (zEp (i := 1) (o := 7) zAb sizeOf3 rfl rfl rfl rfl g4 rfl (by first | omega | rfl | (simp only [hls, zBf, zL] <;> omega)) (fun gv g5 => ?_))
  refine zAe (zAd (gi _ _ (zAg (fun gw gj => (zAc (w_p (zAk isAgg69 g5.tail.tail.drop.drop rfl rfl h3) rfl (w_p (zBz (i := 1) isAgg79 sizeOf79 (by first | omega | rfl | (simp only [hls, zBf, zL] <;> omega)) g5 rfl rfl rfl) rfl ?_)))))))
  refine zAr zAb call59 rfl rfl rfl rfl (zFr (X := _ :: _ :: X) (M := M) c p 0 cb mm hk _ hsw hM g5) ?_
  rintro _ gx ⟨M2, rfl, g3, g6⟩
  replace g6 := (show St _ _ (_ :: _ :: X ++ (M2 ++ (F))) from g6)
  refine zA0 (cs := iv [0,0,0,0,0]) zAb zeroValue77 rfl g6 (fun gk gy gl => ?_)
  refine zB6 (i := 0) (l := _) zAb sizeOf77 (by first | omega | rfl | (simp only [hls, zBf, zL] <;> omega)) rfl rfl rfl rfl rfl gl rfl (by first | omega | rfl | (simp only [hls, zBf, zL] <;> omega)) (fun gz g7 => ?_)
  refine zAe (zAd (gj _ _ (zAg (fun gA gm => (zAg (fun gB gn => (zAc (w_p (zAf (o := 7) (i := 3) underlying79 rfl sizeOf3 rfl rfl rfl) rfl (w_p (zAk isAgg3 g7 rfl rfl (zD5 (i := 2) (o := 7) rfl (by first | omega | rfl | (simp only [hls, zBf, zL] <;> omega)))) rfl ?_)))))))))
  refine w_p (zAf (o := 3) (i := 3) underlying42 rfl sizeOf39 rfl rfl rfl) rfl (w_p (zAk isAgg39 g7.tail.tail.tail.drop.drop rfl rfl (show Ats _ _ _ _ [_] from Ats.part h4 3 1)) rfl (w_p (zBo underlying39 rfl rfl) rfl (zAr zAb call67 rfl rfl rfl rfl ((by have h := c67 (tt (without s set)) c.lots.length (by omega) (by omega) g7; rw [← hwt.1] at h; exact h)) ?_)))
  rintro _ gC ⟨B1, hown1, g8⟩
  replace g8 := (show St _ _ (B1 ++ (_ :: _ :: _ :: X ++ (M2 ++ (F)))) from g8)
  obtain ⟨aL, cL, rfl, hslL, _, _⟩ := zG5 (w0 := w0) hown1
  have hll := zG6 (tt (without s set)) c.lots.length
  have g9 := ((((((g8.perm ((List.Perm.append_left B1 ((List.Perm.append_left [_,_,_] (zAa X M2 _)).trans (zAa [_,_,_] M2 _))).trans (zAa B1 M2 _))).perm ((List.Perm.append_left M2 ((List.Perm.append_left B1 (zAa [_,_,_] X _)).trans (zAa B1 X _))).trans (zAa M2 X _))).perm ((List.Perm.append_left X (zAa M2 B1 _)).trans (zAa X B1 _))).perm ((List.Perm.append_left B1 ((List.Perm.append_left X ((List.Perm.append_left M2 (zAa [_,_] [_] _)).trans (zAa M2 [_] _))).trans (zAa X [_] _))).trans (zAa B1 [_] _))).perm ((List.Perm.append_left [_] ((List.Perm.append_left B1 ((List.Perm.append_left X ((List.Perm.append_left M2 (zAa [_] [_] _)).trans (zAa M2 [_] _))).trans (zAa X [_] _))).trans (zAa B1 [_] _))).trans (zAa [_] [_] _))).perm ((List.Perm.append_left [_,_] ((List.Perm.append_left B1 ((List.Perm.append_left X (zAa M2 [_] _)).trans (zAa X [_] _))).trans (zAa B1 [_] _))).trans (zAa [_,_] [_] _)))
  replace g9 := (show St _ _ (_ :: _ :: _ :: B1 ++ (X ++ (M2 ++ (F)))) from g9)
  refine w_p (zBo underlying35 rfl rfl) rfl (w_p (zAi (v := _) rfl rfl) rfl (zAe (zAd (gn _ _ (zA8 ?_)))))
  refine zCd [8,11,27,28,29,30,31,32,33,34,35,36,37,38,39,40,41,42,43,44,45,46] [27] (fun k vs w => ∃ (j : Nat), vs = [.int .i64 (j : Int)] ∧ j ≤ (listL (tt (without s set)) c.lots.length).length ∧ k = (listL (tt (without s set)) c.lots.length).length - j ∧ ((listL (tt (without s set)) c.lots.length).take j).all (fun i => !(decide ((lotAt c i.toNat).frm ≤ until_) && decide ((times c (without s set)).getD i.toNat 0 ≤ until_))) = true ∧ St w0 w ((gk, blk 77 (iv (times c (without s set)))) :: (b6, blk 77 (iv (times c s))) :: (b3, blk 79 (iv (without s set))) :: (B1 ++ (X ++ (M2 ++ F))))) ((listL (tt (without s set)) c.lots.length).length) ?_ ?_
  ·
   exact ⟨0, rfl, by omega, by omega, rfl, g9⟩
  intro k vs μ gD hI gE gd
  clear hs
  obtain ⟨j, rfl, hja, rfl, hall, hs⟩ := hI
  refine zAg (fun gF go => (zAc (w_p (zCl rfl rfl rfl rfl) rfl (zAe (zAd (go _ _ (zAg (fun gG gp => (zA1 rfl rfl (fun ga => ?_) (fun ga => ?_))))))))))
  ·
   try simp only [zS] at ga
   refine zAx (zAd (gp _ _ (zAg (fun gH ge => (zA8 ?_)))))
   refine zAg (fun gI gq => ?_)
   have hj2 : j < (listL (tt (without s set)) c.lots.length).length := by omega
   obtain ⟨bq, oq, hbq, hxq0⟩ := zDv hslL hj2
   subst hbq
   have hxq := hxq0.top (F := X ++ (M2 ++ F))
   have hzi := listL_in _ _ _ (List.getElem_mem hj2)
   refine zAc (w_p (zBk underlying35 sizeOf3 rfl rfl rfl rfl (i := _) rfl (by omega)) rfl (w_p (zAk isAgg3 hs.tail.tail.tail rfl rfl hxq) rfl (zBs rfl rfl (zAe (zAd (gq _ _ (zAg (fun gJ gf => ?_))))))))
   obtain ⟨i, hiz⟩ : ∃ i : Nat, ((listL (tt (without s set)) c.lots.length)[j]'hj2) = (i : Int) := ⟨(((listL (tt (without s set)) c.lots.length)[j]'hj2)).toNat, by omega⟩
   have hi2 : i < c.lots.length := by omega
   obtain ⟨bx, ox, hbx, hx⟩ := zDy hk.i.l hi2
   refine zCe [] [(0,0),(1,1),(2,0),(3,0),(4,0),(5,1),(6,1),(7,0),(8,0),(9,0),(10,0),(11,1),(12,1),(13,0),(14,0)] zB0 (zB5 (by kernel_rfl)) hs (fun gK g0 => ?_)
   refine d_w rfl (fun _ => zAf (o := 3) (i := 3) underlying42 rfl sizeOf39 rfl rfl rfl) rfl ?_
   refine zBb rfl zAb rfl g0 (fun _ hq => (zFd hbx (zAk isAgg39 hq.tail.tail.tail.drop.drop.drop rfl rfl (show Ats _ _ _ _ [_] from Ats.part h4 3 1)))) ?_
   refine d_w rfl (fun _ => zA6 rfl rfl) rfl ?_
   refine d_w rfl (fun _ => zBk underlying39 sizeOf38 rfl rfl rfl rfl (i := i) hiz hi2) rfl ?_
   refine d_w rfl (fun _ => zAf (o := 1) (i := 1) underlying38 rfl sizeOf3 rfl rfl rfl) rfl ?_
   refine zBb rfl zAb rfl g0 (fun _ hq => (zAk isAgg3 hq.tail.tail.tail.drop.drop.drop rfl rfl (show Ats _ _ _ _ [_] from Ats.part hx 1 1))) ?_
   refine zBb rfl zAb rfl g0 (fun _ hq => (zAk isAgg3 hq.tail.tail.tail.drop.drop.drop rfl rfl h5)) ?_
   refine d_w rfl (fun _ => zGf rfl rfl rfl rfl) rfl ?_
   refine d_w rfl (fun _ => zAi (v := .bool _) rfl rfl) rfl ?_
   refine zDx (fun gb => ?_) (fun gb => ?_)
   ·
    try simp only [zS] at gb
    refine zBv rfl (zAp rfl rfl rfl) rfl (fun _ => (zA6 rfl rfl)) ?_
    refine zBv rfl (zAp rfl rfl rfl) rfl (fun _ => (zCb underlying77 sizeOf3 rfl rfl rfl rfl (i := i) hiz (by omega))) ?_
    refine zBb rfl (zAp rfl rfl rfl) rfl g0 (fun _ hq => (zAk isAgg3 hq rfl rfl (zCy (i := 0) (j := i) rfl (by first | omega | rfl | (simp only [hls, zBf, zL] <;> omega))))) ?_
    refine zBb rfl (zAp rfl rfl rfl) rfl g0 (fun _ hq => (zAk isAgg3 hq.tail.tail.tail.drop.drop.drop rfl rfl h5)) ?_
    refine zBv rfl (zAp rfl rfl rfl) rfl (fun _ => (zGf rfl rfl rfl rfl)) ?_
    refine d_w rfl (fun _ => zAv (v := .bool _) rfl rfl rfl rfl) rfl ?_
    refine zBh ?_
    refine zAd (gf _ _ (zA1 rfl rfl (fun gc => ?_) (fun gc => ?_)))
    ·
     try simp only [zS] at gc
     refine zAg (fun gL gr => (zAc (zBj rfl rfl (zAe (zAd (gr _ _ (zA7 (zAy (zAm (zAm (zAy (zAm (zBa (l := [.tmp 8]) (vs := [_]) rfl ⟨⟨rfl, (rfl : _ = Value.bool _)⟩, trivial⟩ ?_)))))))))))))
     first
       | exact ⟨congrArg Value.bool (all_not hj2 (out_n hiz hi2 (by assumption) (by assumption))), M2, g3, g0.tail.tail.tail.drop⟩
       | (have hjl : j = (listL (tt (without s set)) c.lots.length).length := by omega
          subst hjl
          rw [List.take_length] at hall
          exact ⟨congrArg Value.bool hall.symm, M2, g3, g0.tail.tail.tail.drop⟩)
    try simp only [zS] at gc
    refine zAx (zAn (zAd (ge _ _ (zAc (w_p (zBq rfl rfl rfl rfl (by omega) (by omega)) rfl (zBe rfl rfl (zAe (zAd (gd _ _ (nxI ((listL (tt (without s set)) c.lots.length).length - (j + 1)) (by omega) ?_))))))))))
    first
      | exact ⟨j + 1, rfl, by omega, rfl, zIq hj2 hall (out_y hiz hi2 (.inl (by omega))), g0⟩
      | exact ⟨j + 1, rfl, by omega, rfl, zIq hj2 hall (out_y hiz hi2 (.inr (by omega))), g0⟩
   try simp only [zS] at gb
   refine zBr rfl rfl rfl rfl ?_
   refine zBr rfl rfl rfl rfl ?_
   refine zCt rfl rfl rfl rfl g0 ?_
   refine zCt rfl rfl rfl rfl g0 ?_
   refine zBr rfl rfl rfl rfl ?_
   refine d_w rfl (fun _ => zBg (v := _) rfl rfl rfl rfl) rfl ?_
   refine zBh ?_
   refine zAd (gf _ _ (zB7 rfl rfl ?_))
   refine zAx (zAn (zAd (ge _ _ (zAc (w_p (zBq rfl rfl rfl rfl (by omega) (by omega)) rfl (zBe rfl rfl (zAe (zAd (gd _ _ (nxI ((listL (tt (without s set)) c.lots.length).length - (j + 1)) (by omega) ?_))))))))))
   first
     | exact ⟨j + 1, rfl, by omega, rfl, zIq hj2 hall (out_y hiz hi2 (.inl (by omega))), g0⟩
     | exact ⟨j + 1, rfl, by omega, rfl, zIq hj2 hall (out_y hiz hi2 (.inr (by omega))), g0⟩
  try simp only [zS] at ga
  refine zBy (zAq (zAq (zBc (zAd (gm _ _ (zAg (fun gM gt => (zAc (zBj rfl rfl (zAe (zAd (gt _ _ (zA7 (zBa (l := [.tmp 8]) (vs := [_]) rfl ⟨⟨rfl, (rfl : _ = Value.bool _)⟩, trivial⟩ ?_))))))))))))))
  first
    | exact ⟨congrArg Value.bool (all_not hj2 (out_n hiz hi2 (by assumption) (by assumption))), M2, g3, hs.tail.tail.tail.drop⟩
    | (have hjl : j = (listL (tt (without s set)) c.lots.length).length := by omega
       subst hjl
       rw [List.take_length] at hall
       exact ⟨congrArg Value.bool hall.symm, M2, g3, hs.tail.tail.tail.drop⟩)

theorem out_qis {w0 : World} {F : List (Nat × Obj)} (c : Cargo) (p : AtT) (cb mm : Nat) (hk : CK w0 F c p 0 cb mm) (hco : c.Ok) (hold : Nat) (hh : hold < c.holds.length) (set : Nat) (hset : set < 16) (until_ : Int) (b2 b3 b4 b5 : Nat) (h2 : Ats w0 F b2 0 [.int .i64 (set : Int)]) (h3 : Ats w0 F b3 0 [.pointer (some ⟨cb, 0, none⟩)]) (h4 : Ats w0 F b4 0 (c.cells p)) (h5 : Ats w0 F b5 0 [.int .i64 until_]) : QIs w0 F c mm hold (.func (.func 66) #[] #[.pointer (some ⟨b2,0, none⟩), .pointer (some ⟨b3,0, none⟩), .pointer (some ⟨b4,0, none⟩), .pointer (some ⟨b5,0, none⟩)]) (outQ c set until_) (fun i B => B = []) := by
  intro i hi B M X w hB hM hs
  subst hB
  refine (zDw call66 (c66 (X := X) (M := M) (F := F) c p cb mm hk hco set hset until_ b2 b3 b4 b5 h2 h3 h4 h5 _ (zDz hco hh (List.getElem_mem hi)).1 hM hs)).mono ?_
  rintro v w' ⟨rfl, M', hM', g0⟩
  exact ⟨rfl, [], M', rfl, hM', g0⟩
theorem c65 {w0 w : World} {X M F : List (Nat × Obj)} (c : Cargo) (p : AtT) (cb mm : Nat) (hk : CK w0 F c p 0 cb mm) (hco : c.Ok) (n : Nat) (hh : n < c.holds.length) (until_ : Int) (b1 b2 b3 b4 b5 : Nat) (h1 : Ats w0 F b1 0 [.int .i64 ((ofH c (n : Int) : Nat) : Int)]) (h2 : Ats w0 F b2 0 [.pointer (some ⟨cb, 0, none⟩)]) (h3 : Ats w0 F b3 0 [.int .i64 (n : Int)]) (h4 : Ats w0 F b4 0 (c.cells p)) (h5 : Ats w0 F b5 0 [.int .i64 until_]) (set : Nat) (hset : set < 16) (hM : Memo c mm M) (hs : St w0 w (X ++ (M ++ F))) :
  Con Tryz.prog 65 [.int .i64 (set : Int), .pointer (some ⟨b1,0, none⟩), .pointer (some ⟨b2,0, none⟩), .pointer (some ⟨b3,0, none⟩), .pointer (some ⟨b4,0, none⟩), .pointer (some ⟨b5,0, none⟩)] w fun v w' => v = .bool (outS c n until_ set) ∧ ∃ M', Memo c mm M' ∧ St w0 w' (X ++ (M' ++ F)) := by
  refine zAu (n := 20) func65 rfl rfl (zNl rfl) ?_
  have hlo := hco.ll
  have hof : ofH c (n : Int) < 32 := zId c (n : Int) (i := c.lots.length) (by omega)
  refine zAg (fun K2 g8 => (zAc (zCj (v := .int _ _) (cs := [_]) zAb rfl rfl rfl hs (fun b3 w4 g0 => ?_))))
  refine zBj rfl rfl (zAe (zAd (g8 _ _ (zAg (fun K7 g6 => (zAc (w_p (zAk isAgg3 g0 rfl rfl (zAl (i := 0) (vs := [_]) rfl rfl)) rfl (w_p (zAk isAgg3 g0.tail.drop.drop rfl rfl h1) rfl ?_))))))))
  refine w_p (y_andNot (x := set) (y := (ofH c (n : Int))) rfl rfl rfl rfl (by first | rfl | omega) (by first | rfl | omega) (by first | omega | exact zDe (by omega))) rfl ?_
  refine w_p (zB3 rfl rfl rfl rfl) rfl (w_p (zAi (v := .bool _) rfl rfl) rfl (zBp (fun h8 => ?_) (fun h8 => ?_)))
  ·
   try simp only [zS] at h8
   refine w_y rfl rfl rfl (zAk isAgg69 g0.tail.drop.drop rfl rfl h2) rfl ?_
   refine w_y rfl rfl rfl (zAk isAgg3 g0.tail.drop.drop rfl rfl h3) rfl ?_
   refine w_y rfl rfl rfl (zCa (fv := []) (cv := [_,_,_,_]) rfl rfl rfl rfl) rfl ?_
   refine w_y rfl rfl rfl (zBx (ps := [(0, _)]) (pv := [(0, .func _ _ _)]) rfl rfl (fun w => Try_UN_fb3 _ _ _ w)) rfl ?_
   have g4 := ((g0.perm ((List.Perm.append_left [_] (zAa X M _)).trans (zAa [_] M _))).perm ((List.Perm.append_left M (zAa [_] X _)).trans (zAa M X _)))
   replace g4 := (show St _ _ (X ++ (M ++ (_ :: F))) from g4)
   refine zAr (zAp rfl rfl rfl) call34 rfl rfl rfl rfl (c34 (X := X) (B := []) (M := M) (F := _ :: F) c p cb mm hk.cons hco n hh 66 #[] #[.pointer (some ⟨b3,0, none⟩), .pointer (some ⟨b2,0, none⟩), .pointer (some ⟨b4,0, none⟩), .pointer (some ⟨b5,0, none⟩)] (outQ c set until_) (fun i B => B = []) (out_qis c p cb mm hk.cons hco n hh set hset until_ _ _ _ _ (zAl (i := 0) (vs := [_]) rfl rfl) h2.cons h4.cons h5.cons) rfl hM g4) ?_
   rintro _ g9 ⟨rfl, B1, M2, hJ1, g7, g5⟩
   subst hJ1
   replace g5 := (show St _ _ (X ++ (M2 ++ (_ :: F))) from g5)
   have g3 := (((g5.perm (zAa X M2 _)).perm (zAa M2 X _)).perm ((List.Perm.append_left X (zAa M2 [_] _)).trans (zAa X [_] _)))
   replace g3 := (show St _ _ (_ :: X ++ (M2 ++ (F))) from g3)
   refine w_y rfl rfl rfl (zB3 rfl rfl rfl rfl) rfl ?_
   refine w_p (zAv (v := .bool _) rfl rfl rfl rfl) rfl (w_p (zAo (v := .bool _) rfl rfl) rfl (zAe (zAd (g6 _ _ (zA7 (zBa (l := [.tmp 7]) (vs := [_]) rfl ⟨⟨rfl, (rfl : _ = Value.bool _)⟩, trivial⟩ ?_))))))
   first
     | exact ⟨congrArg Value.bool (outS_1 (by assumption)), M2, g7, g3.tail⟩
     | exact ⟨congrArg Value.bool (outS_0 (by assumption)), M, hM, g3.tail⟩
  try simp only [zS] at h8
  refine zAj rfl rfl rfl ?_
  refine zAj rfl rfl rfl ?_
  refine zAj rfl rfl rfl ?_
  refine zAj rfl rfl rfl ?_
  refine zAj rfl rfl rfl ?_
  refine zAj rfl rfl rfl ?_
  refine w_p (zBg (v := _) rfl rfl rfl rfl) rfl (w_p (zAo (v := .bool _) rfl rfl) rfl (zAe (zAd (g6 _ _ (zA7 (zBa (l := [.tmp 7]) (vs := [_]) rfl ⟨⟨rfl, (rfl : _ = Value.bool _)⟩, trivial⟩ ?_))))))
  first
    | exact ⟨congrArg Value.bool (outS_1 (by assumption)), M2, g7, g0.tail⟩
    | exact ⟨congrArg Value.bool (outS_0 (by assumption)), M, hM, g0.tail⟩

theorem c30 {w0 w : World} {F : List (Nat × Obj)} (c : Cargo) (p : AtT) (hm : TIn w0 F c p) (hold until_ : Int) (hs : St w0 w F) :
  Con Tryz.prog 30 [.agg (c.cells p).toArray, .int .i64 hold, .int .i64 until_] w fun v w' => ∃ B a c', v = .tuple #[.slice a (outP c hold until_).1.length c', .int .i64 (outP c hold until_).2] ∧ Sl w0 B a 1 ((outP c hold until_).1.map fun x => [Value.int .i64 x]) ∧ St w0 w' (B ++ F) := by
  refine zAu (n := 38) func30 rfl rfl (zNl rfl) ?_
  have hll0 := hm.ll
  have hlh0 := hm.lh
  refine zAg (fun K2 kP => (zAc (zCj (v := .agg #[.slice _ _ _, .int _ _, .slice _ _ _, .slice _ _ _, .slice _ _ _]) (cs := [_,_,_,_,_]) zAb rfl rfl rfl hs (fun b3 w4 kQ => ?_))))
  refine zCj (v := .int _ _) (cs := [_]) zAb rfl rfl rfl kQ (fun b6 w7 kR => ?_)
  refine zCj (v := .int _ _) (cs := [_]) zAb rfl rfl rfl kR (fun b9 mL kS => ?_)
  refine zBj rfl rfl (zBj rfl rfl (zAe (zAd (kP _ _ (zAg (fun mM jH => (w_cut [8,9,11,12,13,14,15,16,17,18,19,20,21,22,23,24,25,26] [9,8] (fun vs w => ∃ bc, (¬ enterE c (outL c hold until_) = 0 ∧ vs = [.int .i64 (enterE c (outL c hold until_)), .pointer (some ⟨bc, 0, none⟩)] ∧ St w0 w ((b9, blk 3 [.int .i64 until_]) :: (b6, blk 3 [.int .i64 hold]) :: (b3, blk 42 (c.cells p)) :: F)) ∨ (enterE c (outL c hold until_) = 0 ∧ ∃ cb mm M, vs = [.int .i64 0, .pointer (some ⟨bc, 0, none⟩)] ∧ Memo c mm M ∧ St w0 w ((cb, blk 132 [.slice p.ae c.heat.length p.ce, .int .i64 c.gas, .slice p.ah c.holds.length p.ch, .slice p.al c.lots.length p.cl, .slice p.an c.seen.length p.cn, .int .i64 ((0 : Nat) : Int), .map (some mm)]) :: (bc, blk 69 [.pointer (some ⟨cb, 0, none⟩)]) :: (b9, blk 3 [.int .i64 until_]) :: (b6, blk 3 [.int .i64 hold]) :: (b3, blk 42 (c.cells p)) :: (M ++ F)))) (fun mN g0 => ?_) ?_)))))))
  ·
   refine w_drawF (C := fun w => St w0 w _) [17] (.three [(0,1),(1,0),(2,1),(3,0),(4,1),(7,1),(8,1)] 5 9 16 (.three [] 6 9 16 (.two [] 9 16 (.two [] 10 16 (.two [] 11 16 (.two [] 12 16 (.done [(13,0),(14,0),(15,0),(16,2),(17,3),(18,0)]) (.done [(12,2),(13,0),(14,0),(15,0),(17,3),(18,0)])) (.done [(11,2),(12,2),(13,0),(14,0),(15,0),(17,3),(18,0)])) (.done [(10,2),(11,2),(12,2),(13,0),(14,0),(15,0),(17,3),(18,0)])) (.done [(9,2),(10,2),(11,2),(12,2),(13,0),(14,0),(15,0),(17,3),(18,0)])) (.two [] 6 16 (.two [] 10 16 (.two [] 11 16 (.two [] 12 16 (.done [(13,0),(14,0),(15,0),(16,2),(17,3),(18,0)]) (.done [(12,2),(13,0),(14,0),(15,0),(17,3),(18,0)])) (.done [(11,2),(12,2),(13,0),(14,0),(15,0),(17,3),(18,0)])) (.done [(10,2),(11,2),(12,2),(13,0),(14,0),(15,0),(17,3),(18,0)])) (.done [(6,2),(10,2),(11,2),(12,2),(13,0),(14,0),(15,0),(17,3),(18,0)])) (.two [] 6 9 (.done [(9,2),(10,2),(11,2),(12,2),(13,0),(14,0),(15,0),(17,3),(18,0)]) (.done [(6,2),(10,2),(11,2),(12,2),(13,0),(14,0),(15,0),(17,3),(18,0)]))) (.two [] 5 16 (.two [] 6 16 (.two [] 10 16 (.two [] 11 16 (.two [] 12 16 (.done [(13,0),(14,0),(15,0),(16,2),(17,3),(18,0)]) (.done [(12,2),(13,0),(14,0),(15,0),(17,3),(18,0)])) (.done [(11,2),(12,2),(13,0),(14,0),(15,0),(17,3),(18,0)])) (.done [(10,2),(11,2),(12,2),(13,0),(14,0),(15,0),(17,3),(18,0)])) (.done [(6,2),(10,2),(11,2),(12,2),(13,0),(14,0),(15,0),(17,3),(18,0)])) (.done [(5,2),(6,2),(10,2),(11,2),(12,2),(13,0),(14,0),(15,0),(17,3),(18,0)])) (.two [] 5 9 (.two [] 6 9 (.done [(9,2),(10,2),(11,2),(12,2),(13,0),(14,0),(15,0),(17,3),(18,0)]) (.done [(6,2),(10,2),(11,2),(12,2),(13,0),(14,0),(15,0),(17,3),(18,0)])) (.done [(5,2),(6,2),(10,2),(11,2),(12,2),(13,0),(14,0),(15,0),(17,3),(18,0)]))) zB0 (by kernel_rfl) kS (fun _ h => h.drew) (fun mO gl => ?_)
   refine zBb rfl zAb rfl gl (fun _ hq => (zA9 (vs := [_,_,_,_,_]) isAgg42 sizeOf42 hq rfl rfl (zAl (i := 2) (vs := [_,_,_,_,_]) rfl rfl))) ?_
   refine d_w rfl (fun _ => zAf (o := 2) (i := 2) underlying42 rfl sizeOf36 rfl rfl rfl) rfl ?_
   refine zBb rfl zAb rfl gl (fun _ hq => (zAk isAgg36 hq rfl rfl (zAl (i := 2) (vs := [_]) rfl rfl))) ?_
   refine d_w rfl (fun _ => zBo underlying36 rfl rfl) rfl ?_
   refine zBb rfl zAb rfl gl (fun _ hq => (zAk isAgg3 hq rfl rfl (zAl (i := 1) (vs := [_]) rfl rfl))) ?_
   refine zBb rfl zAb rfl gl (fun _ hq => (zA9 (vs := [_,_,_,_,_]) isAgg42 sizeOf42 hq rfl rfl (zAl (i := 2) (vs := [_,_,_,_,_]) rfl rfl))) ?_
   refine zBb rfl zAb rfl gl (fun _ hq => (zAk isAgg3 hq rfl rfl (zAl (i := 0) (vs := [_]) rfl rfl))) ?_
   refine zBh ⟨zDm rfl ?_, zDm rfl ?_, zDm rfl ?_⟩
   ·
    refine zA3 (ps := [(0, _)]) (pv := [(0, .int _ _)]) (cs := [_]) zAb rfl rfl (fun w => zCz _ w) gl (fun mP mQ gp => ?_)
    refine zAe (qn ⟨gp.tail, ?_⟩)
    refine zBh ⟨zDm rfl ?_, zDm rfl ?_, zDm rfl ?_⟩
    ·
     refine zAr zAb call39 rfl rfl rfl rfl (c39 _ (by omega) _ _ [_] (by simp) (zBd (i := 0) (rows := [[_]]) rfl (by simp) rfl) gp) ?_
     rintro _ mR ⟨rfl, gv⟩
     refine zAe (qn ⟨gv.tail, ?_⟩)
     refine zBh ⟨zDm rfl ?_, zDm rfl ?_⟩
     ·
      refine zA3 (ps := [(0, _)]) (pv := [(0, .int _ _)]) (cs := [_]) zAb rfl rfl (fun w => zCz _ w) gv (fun mS mT gw => ?_)
      refine zAe (qn ⟨gw.tail.tail, ?_⟩)
      refine zBh ⟨zDm rfl ?_, zDm rfl ?_⟩
      ·
       refine zAr zAb call33 rfl rfl rfl rfl (c33 c _ hm.cons.cons.cons.cons.cons _ _ [_] (by simp) (zBd (i := 0) (rows := [[_]]) rfl (by simp) rfl) gw) ?_
       rintro _ mU ⟨rfl, gx⟩
       refine zAe (qn ⟨gx.tail.tail, ?_⟩)
       refine zBh ⟨zDm rfl ?_, zDm rfl ?_⟩
       ·
        refine zA3 (ps := [(0, _),(1, _)]) (pv := [(0, .agg #[.bool _, .int _ _]),(1, .agg #[.bool _, .int _ _])]) (cs := [_,_,_,_]) zAb rfl rfl (fun w => zCk _ _ _ _ w) gx (fun mV mW gy => ?_)
        refine zAe (qn ⟨gy.tail.tail.tail, ?_⟩)
        refine zBh ⟨zDm rfl ?_, zDm rfl ?_⟩
        ·
         refine zAr zAb call32 rfl rfl rfl rfl (c32 c _ hm.cons.cons.cons.cons.cons.cons _ _ (outL c hold until_) (by simp [spoilsL, putL, outL]) (fun x hx _ => by simp only [outL, List.mem_cons, List.not_mem_nil, or_false] at hx; rcases hx with rfl | rfl <;> simp [noneA, hoursA]) (zBd (i := 0) (rows := (arows (outL c hold until_))) rfl (fun row h => by obtain ⟨x, _, rfl⟩ := List.mem_map.1 h; rfl) rfl) gy) ?_
         rintro _ mX (⟨hee, rfl, gm⟩ | ⟨hee, cb, mm, M, rfl, hM, gm⟩)
         ·
          refine zAe (qn ⟨gm.tail.tail.tail, ?_⟩)
          refine d_w rfl (fun _ => zAi (v := .tuple _) rfl rfl) rfl ?_
          refine d_w rfl (fun _ => zAh (v := .pointer _) rfl rfl rfl) rfl ?_
          refine d_w rfl (fun _ => zAh (v := .int _ _) rfl rfl rfl) rfl ?_
          refine zBl rfl ?_
          refine zA0 (cs := [_]) zAb zeroValue69 rfl gm (fun mY mZ gq => ?_)
          refine zAe (qn ⟨gq.tail.tail.tail.tail, ?_⟩)
          replace gq := (show St _ _ (_ :: _ :: _ :: _ :: _ :: _ :: _ :: F) from gq)
          refine zBm rfl ?_
          refine zAs (i := 0) (v := .pointer _) (vs := [_]) zAb sizeOf69 rfl rfl rfl rfl rfl (by simp [Value.oneCell']) gq rfl (zNl rfl) (fun q0 kT => ?_)
          refine zAe (qn ?_)
          refine d_w rfl (fun _ => zA2 rfl rfl) rfl ?_
          refine zBh ?_
          refine zAd (g0 _ _ (Md.intro (by repeat (first | exact zAz | exact zA5 | refine zA4 rfl ?_ | refine zAw rfl ?_ _ | refine zAt rfl ?_)) ?_))
          have gz := kT.tail.tail.tail.tail
          replace gz := (show St _ _ (_ :: _ :: _ :: F) from gz)
          exact ⟨_, .inl ⟨hee, rfl, gz⟩⟩
         replace gm := (show St _ _ (M ++ (_ :: _ :: _ :: _ :: _ :: _ :: _ :: F)) from gm)
         refine zAe (qn ⟨gm.drop.tail.tail.tail.tail, ?_⟩)
         refine d_w rfl (fun _ => zAi (v := .tuple _) rfl rfl) rfl ?_
         refine d_w rfl (fun _ => zAh (v := .pointer _) rfl rfl rfl) rfl ?_
         refine d_w rfl (fun _ => zAh (v := .int _ _) rfl rfl rfl) rfl ?_
         refine zBl rfl ?_
         refine zA0 (cs := [_]) zAb zeroValue69 rfl gm (fun q1 q2 jI => ?_)
         refine zAe (qn ⟨jI.tail.drop.tail.tail.tail.tail, ?_⟩)
         have gA := (((((((((jI.perm (zAa [_] M _)).perm ((List.Perm.append_left M (zAa [_,_,_,_,_,_,_] [_] _)).trans (zAa M [_] _))).perm ((List.Perm.append_left [_] ((List.Perm.append_left M (zAa [_,_,_,_,_,_] [_] _)).trans (zAa M [_] _))).trans (zAa [_] [_] _))).perm ((List.Perm.append_left [_,_] ((List.Perm.append_left M (zAa [_,_,_,_,_] [_] _)).trans (zAa M [_] _))).trans (zAa [_,_] [_] _))).perm ((List.Perm.append_left [_,_,_] ((List.Perm.append_left M (zAa [_,_,_,_] [_] _)).trans (zAa M [_] _))).trans (zAa [_,_,_] [_] _))).perm ((List.Perm.append_left [_,_,_,_] ((List.Perm.append_left M (zAa [_,_,_] [_] _)).trans (zAa M [_] _))).trans (zAa [_,_,_,_] [_] _))).perm ((List.Perm.append_left [_,_,_,_,_] ((List.Perm.append_left M (zAa [_,_] [_] _)).trans (zAa M [_] _))).trans (zAa [_,_,_,_,_] [_] _))).perm ((List.Perm.append_left [_,_,_,_,_,_] ((List.Perm.append_left M (zAa [_] [_] _)).trans (zAa M [_] _))).trans (zAa [_,_,_,_,_,_] [_] _))).perm ((List.Perm.append_left [_,_,_,_,_,_,_] (zAa M [_] _)).trans (zAa [_,_,_,_,_,_,_] [_] _)))
         replace gA := (show St _ _ (_ :: _ :: _ :: _ :: _ :: _ :: _ :: _ :: M ++ (F)) from gA)
         refine zBm rfl ?_
         refine zAs (i := 0) (v := .pointer _) (vs := [_]) zAb sizeOf69 rfl rfl rfl rfl rfl (by simp [Value.oneCell']) gA rfl (zNl rfl) (fun q3 kU => ?_)
         refine zAe (qn ?_)
         refine d_w rfl (fun _ => zA2 rfl rfl) rfl ?_
         refine zBh ?_
         refine zAd (g0 _ _ (Md.intro (by repeat (first | exact zAz | exact zA5 | refine zA4 rfl ?_ | refine zAw rfl ?_ _ | refine zAt rfl ?_)) ?_))
         have gB := (((((((((kU.perm (zAa [_,_] [_] _)).tail.perm (zAa [_,_] [_] _)).tail.perm (zAa [_,_] [_] _)).tail.perm (zAa [_,_,_,_,_] M _)).perm ((List.Perm.append_left M (zAa [_,_,_,_] [_] _)).trans (zAa M [_] _))).perm ((List.Perm.append_left [_] ((List.Perm.append_left M (zAa [_,_,_] [_] _)).trans (zAa M [_] _))).trans (zAa [_] [_] _))).perm ((List.Perm.append_left [_,_] ((List.Perm.append_left M (zAa [_,_] [_] _)).trans (zAa M [_] _))).trans (zAa [_,_] [_] _))).perm ((List.Perm.append_left [_,_,_] (zAa M [_] _)).trans (zAa [_,_,_] [_] _))).perm ((List.Perm.append_left [_,_,_,_] (zAa M [_] _)).trans (zAa [_,_,_,_] [_] _)))
         replace gB := (show St _ _ (_ :: _ :: _ :: _ :: _ :: M ++ (F)) from gB)
         exact ⟨_, .inr ⟨hee, cb, mm, M, rfl, hM, gB⟩⟩
        refine zA0 (cs := [_]) zAb zeroValue69 rfl gy (fun q4 q5 jJ => ?_)
        refine zAe (qn ⟨jJ.tail.tail.tail.tail, ?_⟩)
        refine zBl rfl ?_
        refine zAr zAb call32 rfl rfl rfl rfl (c32 c _ hm.cons.cons.cons.cons.cons.cons.cons _ _ (outL c hold until_) (by simp [spoilsL, putL, outL]) (fun x hx _ => by simp only [outL, List.mem_cons, List.not_mem_nil, or_false] at hx; rcases hx with rfl | rfl <;> simp [noneA, hoursA]) (zBd (i := 1) (rows := (arows (outL c hold until_))) rfl (fun row h => by obtain ⟨x, _, rfl⟩ := List.mem_map.1 h; rfl) rfl) jJ) ?_
        rintro _ q6 (⟨hee, rfl, g3⟩ | ⟨hee, cb, mm, M, rfl, hM, g3⟩)
        ·
         refine zAe (qn ⟨g3.tail.tail.tail.tail, ?_⟩)
         refine d_w rfl (fun _ => zAi (v := .tuple _) rfl rfl) rfl ?_
         refine d_w rfl (fun _ => zAh (v := .pointer _) rfl rfl rfl) rfl ?_
         refine d_w rfl (fun _ => zAh (v := .int _ _) rfl rfl rfl) rfl ?_
         replace g3 := (show St _ _ (_ :: _ :: _ :: _ :: _ :: _ :: _ :: F) from g3)
         refine zBm rfl ?_
         refine zAs (i := 0) (v := .pointer _) (vs := [_]) zAb sizeOf69 rfl rfl rfl rfl rfl (by simp [Value.oneCell']) g3 rfl (zNl rfl) (fun q7 kV => ?_)
         refine zAe (qn ?_)
         refine d_w rfl (fun _ => zA2 rfl rfl) rfl ?_
         refine zBh ?_
         refine zAd (g0 _ _ (Md.intro (by repeat (first | exact zAz | exact zA5 | refine zA4 rfl ?_ | refine zAw rfl ?_ _ | refine zAt rfl ?_)) ?_))
         have gC := kV.tail.tail.tail.tail
         replace gC := (show St _ _ (_ :: _ :: _ :: F) from gC)
         exact ⟨_, .inl ⟨hee, rfl, gC⟩⟩
        replace g3 := (show St _ _ (M ++ (_ :: _ :: _ :: _ :: _ :: _ :: _ :: _ :: F)) from g3)
        refine zAe (qn ⟨g3.drop.tail.tail.tail.tail.tail, ?_⟩)
        refine d_w rfl (fun _ => zAi (v := .tuple _) rfl rfl) rfl ?_
        refine d_w rfl (fun _ => zAh (v := .pointer _) rfl rfl rfl) rfl ?_
        refine d_w rfl (fun _ => zAh (v := .int _ _) rfl rfl rfl) rfl ?_
        have gD := ((((((((g3.perm ((List.Perm.append_left M (zAa [_,_,_,_,_,_,_] [_] _)).trans (zAa M [_] _))).perm ((List.Perm.append_left [_] ((List.Perm.append_left M (zAa [_,_,_,_,_,_] [_] _)).trans (zAa M [_] _))).trans (zAa [_] [_] _))).perm ((List.Perm.append_left [_,_] ((List.Perm.append_left M (zAa [_,_,_,_,_] [_] _)).trans (zAa M [_] _))).trans (zAa [_,_] [_] _))).perm ((List.Perm.append_left [_,_,_] ((List.Perm.append_left M (zAa [_,_,_,_] [_] _)).trans (zAa M [_] _))).trans (zAa [_,_,_] [_] _))).perm ((List.Perm.append_left [_,_,_,_] ((List.Perm.append_left M (zAa [_,_,_] [_] _)).trans (zAa M [_] _))).trans (zAa [_,_,_,_] [_] _))).perm ((List.Perm.append_left [_,_,_,_,_] ((List.Perm.append_left M (zAa [_,_] [_] _)).trans (zAa M [_] _))).trans (zAa [_,_,_,_,_] [_] _))).perm ((List.Perm.append_left [_,_,_,_,_,_] ((List.Perm.append_left M (zAa [_] [_] _)).trans (zAa M [_] _))).trans (zAa [_,_,_,_,_,_] [_] _))).perm ((List.Perm.append_left [_,_,_,_,_,_,_] (zAa M [_] _)).trans (zAa [_,_,_,_,_,_,_] [_] _)))
        replace gD := (show St _ _ (_ :: _ :: _ :: _ :: _ :: _ :: _ :: _ :: M ++ (F)) from gD)
        refine zBm rfl ?_
        refine zAs (i := 1) (v := .pointer _) (vs := [_]) zAb sizeOf69 rfl rfl rfl rfl rfl (by simp [Value.oneCell']) gD rfl (zNl rfl) (fun q8 kW => ?_)
        refine zAe (qn ?_)
        refine d_w rfl (fun _ => zA2 rfl rfl) rfl ?_
        refine zBh ?_
        refine zAd (g0 _ _ (Md.intro (by repeat (first | exact zAz | exact zA5 | refine zA4 rfl ?_ | refine zAw rfl ?_ _ | refine zAt rfl ?_)) ?_))
        have gE := (((kW.perm (zAa [_,_] [_] _)).tail.perm (zAa [_,_] [_] _)).tail.perm (zAa [_,_] [_] _)).tail
        replace gE := (show St _ _ (_ :: _ :: _ :: _ :: _ :: M ++ (F)) from gE)
        exact ⟨_, .inr ⟨hee, cb, mm, M, rfl, hM, gE⟩⟩
       refine zA0 (cs := [_]) zAb zeroValue69 rfl gx (fun q9 qa jK => ?_)
       refine zAe (qn ⟨jK.tail.tail.tail, ?_⟩)
       refine zBl rfl ?_
       refine zA3 (ps := [(0, _),(1, _)]) (pv := [(0, .agg #[.bool _, .int _ _]),(1, .agg #[.bool _, .int _ _])]) (cs := [_,_,_,_]) zAb rfl rfl (fun w => zCk _ _ _ _ w) jK (fun qb qc jL => ?_)
       refine zAe (qn ⟨jL.tail.tail.tail.tail, ?_⟩)
       refine zBl rfl ?_
       refine zAr zAb call32 rfl rfl rfl rfl (c32 c _ hm.cons.cons.cons.cons.cons.cons.cons _ _ (outL c hold until_) (by simp [spoilsL, putL, outL]) (fun x hx _ => by simp only [outL, List.mem_cons, List.not_mem_nil, or_false] at hx; rcases hx with rfl | rfl <;> simp [noneA, hoursA]) (zBd (i := 0) (rows := (arows (outL c hold until_))) rfl (fun row h => by obtain ⟨x, _, rfl⟩ := List.mem_map.1 h; rfl) rfl) jL) ?_
       rintro _ qd (⟨hee, rfl, g4⟩ | ⟨hee, cb, mm, M, rfl, hM, g4⟩)
       ·
        refine zAe (qn ⟨g4.tail.tail.tail.tail, ?_⟩)
        refine d_w rfl (fun _ => zAi (v := .tuple _) rfl rfl) rfl ?_
        refine d_w rfl (fun _ => zAh (v := .pointer _) rfl rfl rfl) rfl ?_
        refine d_w rfl (fun _ => zAh (v := .int _ _) rfl rfl rfl) rfl ?_
        replace g4 := (show St _ _ (_ :: _ :: _ :: _ :: _ :: _ :: _ :: F) from g4)
        refine zBm rfl ?_
        refine zAs (i := 1) (v := .pointer _) (vs := [_]) zAb sizeOf69 rfl rfl rfl rfl rfl (by simp [Value.oneCell']) g4 rfl (zNl rfl) (fun qe kX => ?_)
        refine zAe (qn ?_)
        refine d_w rfl (fun _ => zA2 rfl rfl) rfl ?_
        refine zBh ?_
        refine zAd (g0 _ _ (Md.intro (by repeat (first | exact zAz | exact zA5 | refine zA4 rfl ?_ | refine zAw rfl ?_ _ | refine zAt rfl ?_)) ?_))
        have gF := kX.tail.tail.tail.tail
        replace gF := (show St _ _ (_ :: _ :: _ :: F) from gF)
        exact ⟨_, .inl ⟨hee, rfl, gF⟩⟩
       replace g4 := (show St _ _ (M ++ (_ :: _ :: _ :: _ :: _ :: _ :: _ :: _ :: F)) from g4)
       refine zAe (qn ⟨g4.drop.tail.tail.tail.tail.tail, ?_⟩)
       refine d_w rfl (fun _ => zAi (v := .tuple _) rfl rfl) rfl ?_
       refine d_w rfl (fun _ => zAh (v := .pointer _) rfl rfl rfl) rfl ?_
       refine d_w rfl (fun _ => zAh (v := .int _ _) rfl rfl rfl) rfl ?_
       have gG := ((((((((g4.perm ((List.Perm.append_left M (zAa [_,_,_,_,_,_,_] [_] _)).trans (zAa M [_] _))).perm ((List.Perm.append_left [_] ((List.Perm.append_left M (zAa [_,_,_,_,_,_] [_] _)).trans (zAa M [_] _))).trans (zAa [_] [_] _))).perm ((List.Perm.append_left [_,_] ((List.Perm.append_left M (zAa [_,_,_,_,_] [_] _)).trans (zAa M [_] _))).trans (zAa [_,_] [_] _))).perm ((List.Perm.append_left [_,_,_] ((List.Perm.append_left M (zAa [_,_,_,_] [_] _)).trans (zAa M [_] _))).trans (zAa [_,_,_] [_] _))).perm ((List.Perm.append_left [_,_,_,_] ((List.Perm.append_left M (zAa [_,_,_] [_] _)).trans (zAa M [_] _))).trans (zAa [_,_,_,_] [_] _))).perm ((List.Perm.append_left [_,_,_,_,_] ((List.Perm.append_left M (zAa [_,_] [_] _)).trans (zAa M [_] _))).trans (zAa [_,_,_,_,_] [_] _))).perm ((List.Perm.append_left [_,_,_,_,_,_] ((List.Perm.append_left M (zAa [_] [_] _)).trans (zAa M [_] _))).trans (zAa [_,_,_,_,_,_] [_] _))).perm ((List.Perm.append_left [_,_,_,_,_,_,_] (zAa M [_] _)).trans (zAa [_,_,_,_,_,_,_] [_] _)))
       replace gG := (show St _ _ (_ :: _ :: _ :: _ :: _ :: _ :: _ :: _ :: M ++ (F)) from gG)
       refine zBm rfl ?_
       refine zAs (i := 2) (v := .pointer _) (vs := [_]) zAb sizeOf69 rfl rfl rfl rfl rfl (by simp [Value.oneCell']) gG rfl (zNl rfl) (fun qf kY => ?_)
       refine zAe (qn ?_)
       refine d_w rfl (fun _ => zA2 rfl rfl) rfl ?_
       refine zBh ?_
       refine zAd (g0 _ _ (Md.intro (by repeat (first | exact zAz | exact zA5 | refine zA4 rfl ?_ | refine zAw rfl ?_ _ | refine zAt rfl ?_)) ?_))
       have gH := (((kY.perm (zAa [_] [_] _)).tail.perm (zAa [_,_] [_] _)).tail.perm (zAa [_,_] [_] _)).tail
       replace gH := (show St _ _ (_ :: _ :: _ :: _ :: _ :: M ++ (F)) from gH)
       exact ⟨_, .inr ⟨hee, cb, mm, M, rfl, hM, gH⟩⟩
      refine zA0 (cs := [_]) zAb zeroValue69 rfl gw (fun qg qh jM => ?_)
      refine zAe (qn ⟨jM.tail.tail.tail, ?_⟩)
      refine zBl rfl ?_
      refine zAr zAb call33 rfl rfl rfl rfl (c33 c _ hm.cons.cons.cons.cons.cons.cons _ _ [_] (by simp) (zBd (i := 1) (rows := [[_]]) rfl (by simp) rfl) jM) ?_
      rintro _ qi ⟨rfl, jN⟩
      refine zAe (qn ⟨jN.tail.tail.tail, ?_⟩)
      refine zBl rfl ?_
      refine zA3 (ps := [(0, _),(1, _)]) (pv := [(0, .agg #[.bool _, .int _ _]),(1, .agg #[.bool _, .int _ _])]) (cs := [_,_,_,_]) zAb rfl rfl (fun w => zCk _ _ _ _ w) jN (fun qj qk jO => ?_)
      refine zAe (qn ⟨jO.tail.tail.tail.tail, ?_⟩)
      refine zBl rfl ?_
      refine zAr zAb call32 rfl rfl rfl rfl (c32 c _ hm.cons.cons.cons.cons.cons.cons.cons _ _ (outL c hold until_) (by simp [spoilsL, putL, outL]) (fun x hx _ => by simp only [outL, List.mem_cons, List.not_mem_nil, or_false] at hx; rcases hx with rfl | rfl <;> simp [noneA, hoursA]) (zBd (i := 0) (rows := (arows (outL c hold until_))) rfl (fun row h => by obtain ⟨x, _, rfl⟩ := List.mem_map.1 h; rfl) rfl) jO) ?_
      rintro _ ql (⟨hee, rfl, g5⟩ | ⟨hee, cb, mm, M, rfl, hM, g5⟩)
      ·
       refine zAe (qn ⟨g5.tail.tail.tail.tail, ?_⟩)
       refine d_w rfl (fun _ => zAi (v := .tuple _) rfl rfl) rfl ?_
       refine d_w rfl (fun _ => zAh (v := .pointer _) rfl rfl rfl) rfl ?_
       refine d_w rfl (fun _ => zAh (v := .int _ _) rfl rfl rfl) rfl ?_
       replace g5 := (show St _ _ (_ :: _ :: _ :: _ :: _ :: _ :: _ :: F) from g5)
       refine zBm rfl ?_
       refine zAs (i := 1) (v := .pointer _) (vs := [_]) zAb sizeOf69 rfl rfl rfl rfl rfl (by simp [Value.oneCell']) g5 rfl (zNl rfl) (fun qm kZ => ?_)
       refine zAe (qn ?_)
       refine d_w rfl (fun _ => zA2 rfl rfl) rfl ?_
       refine zBh ?_
       refine zAd (g0 _ _ (Md.intro (by repeat (first | exact zAz | exact zA5 | refine zA4 rfl ?_ | refine zAw rfl ?_ _ | refine zAt rfl ?_)) ?_))
       have gI := kZ.tail.tail.tail.tail
       replace gI := (show St _ _ (_ :: _ :: _ :: F) from gI)
       exact ⟨_, .inl ⟨hee, rfl, gI⟩⟩
      replace g5 := (show St _ _ (M ++ (_ :: _ :: _ :: _ :: _ :: _ :: _ :: _ :: F)) from g5)
      refine zAe (qn ⟨g5.drop.tail.tail.tail.tail.tail, ?_⟩)
      refine d_w rfl (fun _ => zAi (v := .tuple _) rfl rfl) rfl ?_
      refine d_w rfl (fun _ => zAh (v := .pointer _) rfl rfl rfl) rfl ?_
      refine d_w rfl (fun _ => zAh (v := .int _ _) rfl rfl rfl) rfl ?_
      have gJ := ((((((((g5.perm ((List.Perm.append_left M (zAa [_,_,_,_,_,_,_] [_] _)).trans (zAa M [_] _))).perm ((List.Perm.append_left [_] ((List.Perm.append_left M (zAa [_,_,_,_,_,_] [_] _)).trans (zAa M [_] _))).trans (zAa [_] [_] _))).perm ((List.Perm.append_left [_,_] ((List.Perm.append_left M (zAa [_,_,_,_,_] [_] _)).trans (zAa M [_] _))).trans (zAa [_,_] [_] _))).perm ((List.Perm.append_left [_,_,_] ((List.Perm.append_left M (zAa [_,_,_,_] [_] _)).trans (zAa M [_] _))).trans (zAa [_,_,_] [_] _))).perm ((List.Perm.append_left [_,_,_,_] ((List.Perm.append_left M (zAa [_,_,_] [_] _)).trans (zAa M [_] _))).trans (zAa [_,_,_,_] [_] _))).perm ((List.Perm.append_left [_,_,_,_,_] ((List.Perm.append_left M (zAa [_,_] [_] _)).trans (zAa M [_] _))).trans (zAa [_,_,_,_,_] [_] _))).perm ((List.Perm.append_left [_,_,_,_,_,_] ((List.Perm.append_left M (zAa [_] [_] _)).trans (zAa M [_] _))).trans (zAa [_,_,_,_,_,_] [_] _))).perm ((List.Perm.append_left [_,_,_,_,_,_,_] (zAa M [_] _)).trans (zAa [_,_,_,_,_,_,_] [_] _)))
      replace gJ := (show St _ _ (_ :: _ :: _ :: _ :: _ :: _ :: _ :: _ :: M ++ (F)) from gJ)
      refine zBm rfl ?_
      refine zAs (i := 2) (v := .pointer _) (vs := [_]) zAb sizeOf69 rfl rfl rfl rfl rfl (by simp [Value.oneCell']) gJ rfl (zNl rfl) (fun qo m0 => ?_)
      refine zAe (qn ?_)
      refine d_w rfl (fun _ => zA2 rfl rfl) rfl ?_
      refine zBh ?_
      refine zAd (g0 _ _ (Md.intro (by repeat (first | exact zAz | exact zA5 | refine zA4 rfl ?_ | refine zAw rfl ?_ _ | refine zAt rfl ?_)) ?_))
      have gK := (((m0.perm (zAa [_] [_] _)).tail.perm (zAa [_,_] [_] _)).tail.perm (zAa [_,_] [_] _)).tail
      replace gK := (show St _ _ (_ :: _ :: _ :: _ :: _ :: M ++ (F)) from gK)
      exact ⟨_, .inr ⟨hee, cb, mm, M, rfl, hM, gK⟩⟩
     refine zA0 (cs := [_]) zAb zeroValue69 rfl gv (fun qp qq jP => ?_)
     refine zAe (qn ⟨jP.tail.tail, ?_⟩)
     refine zBl rfl ?_
     refine zA3 (ps := [(0, _)]) (pv := [(0, .int _ _)]) (cs := [_]) zAb rfl rfl (fun w => zCz _ w) jP (fun qr qs jQ => ?_)
     refine zAe (qn ⟨jQ.tail.tail.tail, ?_⟩)
     refine zBl rfl ?_
     refine zAr zAb call33 rfl rfl rfl rfl (c33 c _ hm.cons.cons.cons.cons.cons.cons _ _ [_] (by simp) (zBd (i := 0) (rows := [[_]]) rfl (by simp) rfl) jQ) ?_
     rintro _ qt ⟨rfl, jR⟩
     refine zAe (qn ⟨jR.tail.tail.tail, ?_⟩)
     refine zBl rfl ?_
     refine zA3 (ps := [(0, _),(1, _)]) (pv := [(0, .agg #[.bool _, .int _ _]),(1, .agg #[.bool _, .int _ _])]) (cs := [_,_,_,_]) zAb rfl rfl (fun w => zCk _ _ _ _ w) jR (fun qu qv jS => ?_)
     refine zAe (qn ⟨jS.tail.tail.tail.tail, ?_⟩)
     refine zBl rfl ?_
     refine zAr zAb call32 rfl rfl rfl rfl (c32 c _ hm.cons.cons.cons.cons.cons.cons.cons _ _ (outL c hold until_) (by simp [spoilsL, putL, outL]) (fun x hx _ => by simp only [outL, List.mem_cons, List.not_mem_nil, or_false] at hx; rcases hx with rfl | rfl <;> simp [noneA, hoursA]) (zBd (i := 0) (rows := (arows (outL c hold until_))) rfl (fun row h => by obtain ⟨x, _, rfl⟩ := List.mem_map.1 h; rfl) rfl) jS) ?_
     rintro _ qw (⟨hee, rfl, g6⟩ | ⟨hee, cb, mm, M, rfl, hM, g6⟩)
     ·
      refine zAe (qn ⟨g6.tail.tail.tail.tail, ?_⟩)
      refine d_w rfl (fun _ => zAi (v := .tuple _) rfl rfl) rfl ?_
      refine d_w rfl (fun _ => zAh (v := .pointer _) rfl rfl rfl) rfl ?_
      refine d_w rfl (fun _ => zAh (v := .int _ _) rfl rfl rfl) rfl ?_
      replace g6 := (show St _ _ (_ :: _ :: _ :: _ :: _ :: _ :: _ :: F) from g6)
      refine zBm rfl ?_
      refine zAs (i := 2) (v := .pointer _) (vs := [_]) zAb sizeOf69 rfl rfl rfl rfl rfl (by simp [Value.oneCell']) g6 rfl (zNl rfl) (fun qx m1 => ?_)
      refine zAe (qn ?_)
      refine d_w rfl (fun _ => zA2 rfl rfl) rfl ?_
      refine zBh ?_
      refine zAd (g0 _ _ (Md.intro (by repeat (first | exact zAz | exact zA5 | refine zA4 rfl ?_ | refine zAw rfl ?_ _ | refine zAt rfl ?_)) ?_))
      have gL := m1.tail.tail.tail.tail
      replace gL := (show St _ _ (_ :: _ :: _ :: F) from gL)
      exact ⟨_, .inl ⟨hee, rfl, gL⟩⟩
     replace g6 := (show St _ _ (M ++ (_ :: _ :: _ :: _ :: _ :: _ :: _ :: _ :: F)) from g6)
     refine zAe (qn ⟨g6.drop.tail.tail.tail.tail.tail, ?_⟩)
     refine d_w rfl (fun _ => zAi (v := .tuple _) rfl rfl) rfl ?_
     refine d_w rfl (fun _ => zAh (v := .pointer _) rfl rfl rfl) rfl ?_
     refine d_w rfl (fun _ => zAh (v := .int _ _) rfl rfl rfl) rfl ?_
     have gM := ((((((((g6.perm ((List.Perm.append_left M (zAa [_,_,_,_,_,_,_] [_] _)).trans (zAa M [_] _))).perm ((List.Perm.append_left [_] ((List.Perm.append_left M (zAa [_,_,_,_,_,_] [_] _)).trans (zAa M [_] _))).trans (zAa [_] [_] _))).perm ((List.Perm.append_left [_,_] ((List.Perm.append_left M (zAa [_,_,_,_,_] [_] _)).trans (zAa M [_] _))).trans (zAa [_,_] [_] _))).perm ((List.Perm.append_left [_,_,_] ((List.Perm.append_left M (zAa [_,_,_,_] [_] _)).trans (zAa M [_] _))).trans (zAa [_,_,_] [_] _))).perm ((List.Perm.append_left [_,_,_,_] ((List.Perm.append_left M (zAa [_,_,_] [_] _)).trans (zAa M [_] _))).trans (zAa [_,_,_,_] [_] _))).perm ((List.Perm.append_left [_,_,_,_,_] ((List.Perm.append_left M (zAa [_,_] [_] _)).trans (zAa M [_] _))).trans (zAa [_,_,_,_,_] [_] _))).perm ((List.Perm.append_left [_,_,_,_,_,_] ((List.Perm.append_left M (zAa [_] [_] _)).trans (zAa M [_] _))).trans (zAa [_,_,_,_,_,_] [_] _))).perm ((List.Perm.append_left [_,_,_,_,_,_,_] (zAa M [_] _)).trans (zAa [_,_,_,_,_,_,_] [_] _)))
     replace gM := (show St _ _ (_ :: _ :: _ :: _ :: _ :: _ :: _ :: _ :: M ++ (F)) from gM)
     refine zBm rfl ?_
     refine zAs (i := 3) (v := .pointer _) (vs := [_]) zAb sizeOf69 rfl rfl rfl rfl rfl (by simp [Value.oneCell']) gM rfl (zNl rfl) (fun qy m2 => ?_)
     refine zAe (qn ?_)
     refine d_w rfl (fun _ => zA2 rfl rfl) rfl ?_
     refine zBh ?_
     refine zAd (g0 _ _ (Md.intro (by repeat (first | exact zAz | exact zA5 | refine zA4 rfl ?_ | refine zAw rfl ?_ _ | refine zAt rfl ?_)) ?_))
     have gN := (((m2.perm (zAa [_] [_] _)).tail.perm (zAa [_] [_] _)).tail.perm (zAa [_,_] [_] _)).tail
     replace gN := (show St _ _ (_ :: _ :: _ :: _ :: _ :: M ++ (F)) from gN)
     exact ⟨_, .inr ⟨hee, cb, mm, M, rfl, hM, gN⟩⟩
    ·
     refine zA3 (ps := [(0, _)]) (pv := [(0, .int _ _)]) (cs := [_]) zAb rfl rfl (fun w => zCz _ w) gp (fun qz qA gO => ?_)
     refine zAe (qn ⟨gO.tail.tail, ?_⟩)
     refine zBh ⟨zDm rfl ?_, zDm rfl ?_⟩
     ·
      refine zAr zAb call39 rfl rfl rfl rfl (c39 _ (by omega) _ _ [_] (by simp) (zBd (i := 1) (rows := [[_]]) rfl (by simp) rfl) gO) ?_
      rintro _ qB ⟨rfl, gP⟩
      refine zAe (qn ⟨gP.tail.tail, ?_⟩)
      refine zBh ⟨zDm rfl ?_, zDm rfl ?_⟩
      ·
       refine zAr zAb call33 rfl rfl rfl rfl (c33 c _ hm.cons.cons.cons.cons.cons _ _ [_] (by simp) (zBd (i := 0) (rows := [[_]]) rfl (by simp) rfl) gP) ?_
       rintro _ qC ⟨rfl, gQ⟩
       refine zAe (qn ⟨gQ.tail.tail, ?_⟩)
       refine zBh ⟨zDm rfl ?_, zDm rfl ?_⟩
       ·
        refine zA3 (ps := [(0, _),(1, _)]) (pv := [(0, .agg #[.bool _, .int _ _]),(1, .agg #[.bool _, .int _ _])]) (cs := [_,_,_,_]) zAb rfl rfl (fun w => zCk _ _ _ _ w) gQ (fun qD qE gR => ?_)
        refine zAe (qn ⟨gR.tail.tail.tail, ?_⟩)
        refine zBh ⟨zDm rfl ?_, zDm rfl ?_⟩
        ·
         refine zAr zAb call32 rfl rfl rfl rfl (c32 c _ hm.cons.cons.cons.cons.cons.cons _ _ (outL c hold until_) (by simp [spoilsL, putL, outL]) (fun x hx _ => by simp only [outL, List.mem_cons, List.not_mem_nil, or_false] at hx; rcases hx with rfl | rfl <;> simp [noneA, hoursA]) (zBd (i := 0) (rows := (arows (outL c hold until_))) rfl (fun row h => by obtain ⟨x, _, rfl⟩ := List.mem_map.1 h; rfl) rfl) gR) ?_
         rintro _ qF (⟨hee, rfl, gn⟩ | ⟨hee, cb, mm, M, rfl, hM, gn⟩)
         ·
          refine zAe (qn ⟨gn.tail.tail.tail, ?_⟩)
          refine d_w rfl (fun _ => zAi (v := .tuple _) rfl rfl) rfl ?_
          refine d_w rfl (fun _ => zAh (v := .pointer _) rfl rfl rfl) rfl ?_
          refine d_w rfl (fun _ => zAh (v := .int _ _) rfl rfl rfl) rfl ?_
          refine zBl rfl ?_
          refine zA0 (cs := [_]) zAb zeroValue69 rfl gn (fun qG qH gr => ?_)
          refine zAe (qn ⟨gr.tail.tail.tail.tail, ?_⟩)
          replace gr := (show St _ _ (_ :: _ :: _ :: _ :: _ :: _ :: _ :: F) from gr)
          refine zBm rfl ?_
          refine zAs (i := 0) (v := .pointer _) (vs := [_]) zAb sizeOf69 rfl rfl rfl rfl rfl (by simp [Value.oneCell']) gr rfl (zNl rfl) (fun qI m3 => ?_)
          refine zAe (qn ?_)
          refine d_w rfl (fun _ => zA2 rfl rfl) rfl ?_
          refine zBh ?_
          refine zAd (g0 _ _ (Md.intro (by repeat (first | exact zAz | exact zA5 | refine zA4 rfl ?_ | refine zAw rfl ?_ _ | refine zAt rfl ?_)) ?_))
          have gS := m3.tail.tail.tail.tail
          replace gS := (show St _ _ (_ :: _ :: _ :: F) from gS)
          exact ⟨_, .inl ⟨hee, rfl, gS⟩⟩
         replace gn := (show St _ _ (M ++ (_ :: _ :: _ :: _ :: _ :: _ :: _ :: F)) from gn)
         refine zAe (qn ⟨gn.drop.tail.tail.tail.tail, ?_⟩)
         refine d_w rfl (fun _ => zAi (v := .tuple _) rfl rfl) rfl ?_
         refine d_w rfl (fun _ => zAh (v := .pointer _) rfl rfl rfl) rfl ?_
         refine d_w rfl (fun _ => zAh (v := .int _ _) rfl rfl rfl) rfl ?_
         refine zBl rfl ?_
         refine zA0 (cs := [_]) zAb zeroValue69 rfl gn (fun qJ qK jT => ?_)
         refine zAe (qn ⟨jT.tail.drop.tail.tail.tail.tail, ?_⟩)
         have gT := (((((((((jT.perm (zAa [_] M _)).perm ((List.Perm.append_left M (zAa [_,_,_,_,_,_,_] [_] _)).trans (zAa M [_] _))).perm ((List.Perm.append_left [_] ((List.Perm.append_left M (zAa [_,_,_,_,_,_] [_] _)).trans (zAa M [_] _))).trans (zAa [_] [_] _))).perm ((List.Perm.append_left [_,_] ((List.Perm.append_left M (zAa [_,_,_,_,_] [_] _)).trans (zAa M [_] _))).trans (zAa [_,_] [_] _))).perm ((List.Perm.append_left [_,_,_] ((List.Perm.append_left M (zAa [_,_,_,_] [_] _)).trans (zAa M [_] _))).trans (zAa [_,_,_] [_] _))).perm ((List.Perm.append_left [_,_,_,_] ((List.Perm.append_left M (zAa [_,_,_] [_] _)).trans (zAa M [_] _))).trans (zAa [_,_,_,_] [_] _))).perm ((List.Perm.append_left [_,_,_,_,_] ((List.Perm.append_left M (zAa [_,_] [_] _)).trans (zAa M [_] _))).trans (zAa [_,_,_,_,_] [_] _))).perm ((List.Perm.append_left [_,_,_,_,_,_] ((List.Perm.append_left M (zAa [_] [_] _)).trans (zAa M [_] _))).trans (zAa [_,_,_,_,_,_] [_] _))).perm ((List.Perm.append_left [_,_,_,_,_,_,_] (zAa M [_] _)).trans (zAa [_,_,_,_,_,_,_] [_] _)))
         replace gT := (show St _ _ (_ :: _ :: _ :: _ :: _ :: _ :: _ :: _ :: M ++ (F)) from gT)
         refine zBm rfl ?_
         refine zAs (i := 0) (v := .pointer _) (vs := [_]) zAb sizeOf69 rfl rfl rfl rfl rfl (by simp [Value.oneCell']) gT rfl (zNl rfl) (fun qL m4 => ?_)
         refine zAe (qn ?_)
         refine d_w rfl (fun _ => zA2 rfl rfl) rfl ?_
         refine zBh ?_
         refine zAd (g0 _ _ (Md.intro (by repeat (first | exact zAz | exact zA5 | refine zA4 rfl ?_ | refine zAw rfl ?_ _ | refine zAt rfl ?_)) ?_))
         have gU := (((((((((m4.perm (zAa [_,_] [_] _)).tail.perm (zAa [_,_] [_] _)).tail.perm (zAa [_,_] [_] _)).tail.perm (zAa [_,_,_,_,_] M _)).perm ((List.Perm.append_left M (zAa [_,_,_,_] [_] _)).trans (zAa M [_] _))).perm ((List.Perm.append_left [_] ((List.Perm.append_left M (zAa [_,_,_] [_] _)).trans (zAa M [_] _))).trans (zAa [_] [_] _))).perm ((List.Perm.append_left [_,_] ((List.Perm.append_left M (zAa [_,_] [_] _)).trans (zAa M [_] _))).trans (zAa [_,_] [_] _))).perm ((List.Perm.append_left [_,_,_] (zAa M [_] _)).trans (zAa [_,_,_] [_] _))).perm ((List.Perm.append_left [_,_,_,_] (zAa M [_] _)).trans (zAa [_,_,_,_] [_] _)))
         replace gU := (show St _ _ (_ :: _ :: _ :: _ :: _ :: M ++ (F)) from gU)
         exact ⟨_, .inr ⟨hee, cb, mm, M, rfl, hM, gU⟩⟩
        refine zA0 (cs := [_]) zAb zeroValue69 rfl gR (fun qM qN jU => ?_)
        refine zAe (qn ⟨jU.tail.tail.tail.tail, ?_⟩)
        refine zBl rfl ?_
        refine zAr zAb call32 rfl rfl rfl rfl (c32 c _ hm.cons.cons.cons.cons.cons.cons.cons _ _ (outL c hold until_) (by simp [spoilsL, putL, outL]) (fun x hx _ => by simp only [outL, List.mem_cons, List.not_mem_nil, or_false] at hx; rcases hx with rfl | rfl <;> simp [noneA, hoursA]) (zBd (i := 1) (rows := (arows (outL c hold until_))) rfl (fun row h => by obtain ⟨x, _, rfl⟩ := List.mem_map.1 h; rfl) rfl) jU) ?_
        rintro _ qO (⟨hee, rfl, g7⟩ | ⟨hee, cb, mm, M, rfl, hM, g7⟩)
        ·
         refine zAe (qn ⟨g7.tail.tail.tail.tail, ?_⟩)
         refine d_w rfl (fun _ => zAi (v := .tuple _) rfl rfl) rfl ?_
         refine d_w rfl (fun _ => zAh (v := .pointer _) rfl rfl rfl) rfl ?_
         refine d_w rfl (fun _ => zAh (v := .int _ _) rfl rfl rfl) rfl ?_
         replace g7 := (show St _ _ (_ :: _ :: _ :: _ :: _ :: _ :: _ :: F) from g7)
         refine zBm rfl ?_
         refine zAs (i := 0) (v := .pointer _) (vs := [_]) zAb sizeOf69 rfl rfl rfl rfl rfl (by simp [Value.oneCell']) g7 rfl (zNl rfl) (fun qP m5 => ?_)
         refine zAe (qn ?_)
         refine d_w rfl (fun _ => zA2 rfl rfl) rfl ?_
         refine zBh ?_
         refine zAd (g0 _ _ (Md.intro (by repeat (first | exact zAz | exact zA5 | refine zA4 rfl ?_ | refine zAw rfl ?_ _ | refine zAt rfl ?_)) ?_))
         have gV := m5.tail.tail.tail.tail
         replace gV := (show St _ _ (_ :: _ :: _ :: F) from gV)
         exact ⟨_, .inl ⟨hee, rfl, gV⟩⟩
        replace g7 := (show St _ _ (M ++ (_ :: _ :: _ :: _ :: _ :: _ :: _ :: _ :: F)) from g7)
        refine zAe (qn ⟨g7.drop.tail.tail.tail.tail.tail, ?_⟩)
        refine d_w rfl (fun _ => zAi (v := .tuple _) rfl rfl) rfl ?_
        refine d_w rfl (fun _ => zAh (v := .pointer _) rfl rfl rfl) rfl ?_
        refine d_w rfl (fun _ => zAh (v := .int _ _) rfl rfl rfl) rfl ?_
        have gW := ((((((((g7.perm ((List.Perm.append_left M (zAa [_,_,_,_,_,_,_] [_] _)).trans (zAa M [_] _))).perm ((List.Perm.append_left [_] ((List.Perm.append_left M (zAa [_,_,_,_,_,_] [_] _)).trans (zAa M [_] _))).trans (zAa [_] [_] _))).perm ((List.Perm.append_left [_,_] ((List.Perm.append_left M (zAa [_,_,_,_,_] [_] _)).trans (zAa M [_] _))).trans (zAa [_,_] [_] _))).perm ((List.Perm.append_left [_,_,_] ((List.Perm.append_left M (zAa [_,_,_,_] [_] _)).trans (zAa M [_] _))).trans (zAa [_,_,_] [_] _))).perm ((List.Perm.append_left [_,_,_,_] ((List.Perm.append_left M (zAa [_,_,_] [_] _)).trans (zAa M [_] _))).trans (zAa [_,_,_,_] [_] _))).perm ((List.Perm.append_left [_,_,_,_,_] ((List.Perm.append_left M (zAa [_,_] [_] _)).trans (zAa M [_] _))).trans (zAa [_,_,_,_,_] [_] _))).perm ((List.Perm.append_left [_,_,_,_,_,_] ((List.Perm.append_left M (zAa [_] [_] _)).trans (zAa M [_] _))).trans (zAa [_,_,_,_,_,_] [_] _))).perm ((List.Perm.append_left [_,_,_,_,_,_,_] (zAa M [_] _)).trans (zAa [_,_,_,_,_,_,_] [_] _)))
        replace gW := (show St _ _ (_ :: _ :: _ :: _ :: _ :: _ :: _ :: _ :: M ++ (F)) from gW)
        refine zBm rfl ?_
        refine zAs (i := 1) (v := .pointer _) (vs := [_]) zAb sizeOf69 rfl rfl rfl rfl rfl (by simp [Value.oneCell']) gW rfl (zNl rfl) (fun qQ m6 => ?_)
        refine zAe (qn ?_)
        refine d_w rfl (fun _ => zA2 rfl rfl) rfl ?_
        refine zBh ?_
        refine zAd (g0 _ _ (Md.intro (by repeat (first | exact zAz | exact zA5 | refine zA4 rfl ?_ | refine zAw rfl ?_ _ | refine zAt rfl ?_)) ?_))
        have gX := (((m6.perm (zAa [_,_] [_] _)).tail.perm (zAa [_,_] [_] _)).tail.perm (zAa [_,_] [_] _)).tail
        replace gX := (show St _ _ (_ :: _ :: _ :: _ :: _ :: M ++ (F)) from gX)
        exact ⟨_, .inr ⟨hee, cb, mm, M, rfl, hM, gX⟩⟩
       refine zA0 (cs := [_]) zAb zeroValue69 rfl gQ (fun qR qS jV => ?_)
       refine zAe (qn ⟨jV.tail.tail.tail, ?_⟩)
       refine zBl rfl ?_
       refine zA3 (ps := [(0, _),(1, _)]) (pv := [(0, .agg #[.bool _, .int _ _]),(1, .agg #[.bool _, .int _ _])]) (cs := [_,_,_,_]) zAb rfl rfl (fun w => zCk _ _ _ _ w) jV (fun qT qU jW => ?_)
       refine zAe (qn ⟨jW.tail.tail.tail.tail, ?_⟩)
       refine zBl rfl ?_
       refine zAr zAb call32 rfl rfl rfl rfl (c32 c _ hm.cons.cons.cons.cons.cons.cons.cons _ _ (outL c hold until_) (by simp [spoilsL, putL, outL]) (fun x hx _ => by simp only [outL, List.mem_cons, List.not_mem_nil, or_false] at hx; rcases hx with rfl | rfl <;> simp [noneA, hoursA]) (zBd (i := 0) (rows := (arows (outL c hold until_))) rfl (fun row h => by obtain ⟨x, _, rfl⟩ := List.mem_map.1 h; rfl) rfl) jW) ?_
       rintro _ qV (⟨hee, rfl, g8⟩ | ⟨hee, cb, mm, M, rfl, hM, g8⟩)
       ·
        refine zAe (qn ⟨g8.tail.tail.tail.tail, ?_⟩)
        refine d_w rfl (fun _ => zAi (v := .tuple _) rfl rfl) rfl ?_
        refine d_w rfl (fun _ => zAh (v := .pointer _) rfl rfl rfl) rfl ?_
        refine d_w rfl (fun _ => zAh (v := .int _ _) rfl rfl rfl) rfl ?_
        replace g8 := (show St _ _ (_ :: _ :: _ :: _ :: _ :: _ :: _ :: F) from g8)
        refine zBm rfl ?_
        refine zAs (i := 1) (v := .pointer _) (vs := [_]) zAb sizeOf69 rfl rfl rfl rfl rfl (by simp [Value.oneCell']) g8 rfl (zNl rfl) (fun qW m7 => ?_)
        refine zAe (qn ?_)
        refine d_w rfl (fun _ => zA2 rfl rfl) rfl ?_
        refine zBh ?_
        refine zAd (g0 _ _ (Md.intro (by repeat (first | exact zAz | exact zA5 | refine zA4 rfl ?_ | refine zAw rfl ?_ _ | refine zAt rfl ?_)) ?_))
        have gY := m7.tail.tail.tail.tail
        replace gY := (show St _ _ (_ :: _ :: _ :: F) from gY)
        exact ⟨_, .inl ⟨hee, rfl, gY⟩⟩
       replace g8 := (show St _ _ (M ++ (_ :: _ :: _ :: _ :: _ :: _ :: _ :: _ :: F)) from g8)
       refine zAe (qn ⟨g8.drop.tail.tail.tail.tail.tail, ?_⟩)
       refine d_w rfl (fun _ => zAi (v := .tuple _) rfl rfl) rfl ?_
       refine d_w rfl (fun _ => zAh (v := .pointer _) rfl rfl rfl) rfl ?_
       refine d_w rfl (fun _ => zAh (v := .int _ _) rfl rfl rfl) rfl ?_
       have gZ := ((((((((g8.perm ((List.Perm.append_left M (zAa [_,_,_,_,_,_,_] [_] _)).trans (zAa M [_] _))).perm ((List.Perm.append_left [_] ((List.Perm.append_left M (zAa [_,_,_,_,_,_] [_] _)).trans (zAa M [_] _))).trans (zAa [_] [_] _))).perm ((List.Perm.append_left [_,_] ((List.Perm.append_left M (zAa [_,_,_,_,_] [_] _)).trans (zAa M [_] _))).trans (zAa [_,_] [_] _))).perm ((List.Perm.append_left [_,_,_] ((List.Perm.append_left M (zAa [_,_,_,_] [_] _)).trans (zAa M [_] _))).trans (zAa [_,_,_] [_] _))).perm ((List.Perm.append_left [_,_,_,_] ((List.Perm.append_left M (zAa [_,_,_] [_] _)).trans (zAa M [_] _))).trans (zAa [_,_,_,_] [_] _))).perm ((List.Perm.append_left [_,_,_,_,_] ((List.Perm.append_left M (zAa [_,_] [_] _)).trans (zAa M [_] _))).trans (zAa [_,_,_,_,_] [_] _))).perm ((List.Perm.append_left [_,_,_,_,_,_] ((List.Perm.append_left M (zAa [_] [_] _)).trans (zAa M [_] _))).trans (zAa [_,_,_,_,_,_] [_] _))).perm ((List.Perm.append_left [_,_,_,_,_,_,_] (zAa M [_] _)).trans (zAa [_,_,_,_,_,_,_] [_] _)))
       replace gZ := (show St _ _ (_ :: _ :: _ :: _ :: _ :: _ :: _ :: _ :: M ++ (F)) from gZ)
       refine zBm rfl ?_
       refine zAs (i := 2) (v := .pointer _) (vs := [_]) zAb sizeOf69 rfl rfl rfl rfl rfl (by simp [Value.oneCell']) gZ rfl (zNl rfl) (fun qX m8 => ?_)
       refine zAe (qn ?_)
       refine d_w rfl (fun _ => zA2 rfl rfl) rfl ?_
       refine zBh ?_
       refine zAd (g0 _ _ (Md.intro (by repeat (first | exact zAz | exact zA5 | refine zA4 rfl ?_ | refine zAw rfl ?_ _ | refine zAt rfl ?_)) ?_))
       have hD := (((m8.perm (zAa [_] [_] _)).tail.perm (zAa [_,_] [_] _)).tail.perm (zAa [_,_] [_] _)).tail
       replace hD := (show St _ _ (_ :: _ :: _ :: _ :: _ :: M ++ (F)) from hD)
       exact ⟨_, .inr ⟨hee, cb, mm, M, rfl, hM, hD⟩⟩
      refine zA0 (cs := [_]) zAb zeroValue69 rfl gP (fun qY qZ jX => ?_)
      refine zAe (qn ⟨jX.tail.tail.tail, ?_⟩)
      refine zBl rfl ?_
      refine zAr zAb call33 rfl rfl rfl rfl (c33 c _ hm.cons.cons.cons.cons.cons.cons _ _ [_] (by simp) (zBd (i := 1) (rows := [[_]]) rfl (by simp) rfl) jX) ?_
      rintro _ s0 ⟨rfl, jY⟩
      refine zAe (qn ⟨jY.tail.tail.tail, ?_⟩)
      refine zBl rfl ?_
      refine zA3 (ps := [(0, _),(1, _)]) (pv := [(0, .agg #[.bool _, .int _ _]),(1, .agg #[.bool _, .int _ _])]) (cs := [_,_,_,_]) zAb rfl rfl (fun w => zCk _ _ _ _ w) jY (fun s5 s6 jZ => ?_)
      refine zAe (qn ⟨jZ.tail.tail.tail.tail, ?_⟩)
      refine zBl rfl ?_
      refine zAr zAb call32 rfl rfl rfl rfl (c32 c _ hm.cons.cons.cons.cons.cons.cons.cons _ _ (outL c hold until_) (by simp [spoilsL, putL, outL]) (fun x hx _ => by simp only [outL, List.mem_cons, List.not_mem_nil, or_false] at hx; rcases hx with rfl | rfl <;> simp [noneA, hoursA]) (zBd (i := 0) (rows := (arows (outL c hold until_))) rfl (fun row h => by obtain ⟨x, _, rfl⟩ := List.mem_map.1 h; rfl) rfl) jZ) ?_
      rintro _ s7 (⟨hee, rfl, g9⟩ | ⟨hee, cb, mm, M, rfl, hM, g9⟩)
      ·
       refine zAe (qn ⟨g9.tail.tail.tail.tail, ?_⟩)
       refine d_w rfl (fun _ => zAi (v := .tuple _) rfl rfl) rfl ?_
       refine d_w rfl (fun _ => zAh (v := .pointer _) rfl rfl rfl) rfl ?_
       refine d_w rfl (fun _ => zAh (v := .int _ _) rfl rfl rfl) rfl ?_
       replace g9 := (show St _ _ (_ :: _ :: _ :: _ :: _ :: _ :: _ :: F) from g9)
       refine zBm rfl ?_
       refine zAs (i := 1) (v := .pointer _) (vs := [_]) zAb sizeOf69 rfl rfl rfl rfl rfl (by simp [Value.oneCell']) g9 rfl (zNl rfl) (fun s8 m9 => ?_)
       refine zAe (qn ?_)
       refine d_w rfl (fun _ => zA2 rfl rfl) rfl ?_
       refine zBh ?_
       refine zAd (g0 _ _ (Md.intro (by repeat (first | exact zAz | exact zA5 | refine zA4 rfl ?_ | refine zAw rfl ?_ _ | refine zAt rfl ?_)) ?_))
       have hG := m9.tail.tail.tail.tail
       replace hG := (show St _ _ (_ :: _ :: _ :: F) from hG)
       exact ⟨_, .inl ⟨hee, rfl, hG⟩⟩
      replace g9 := (show St _ _ (M ++ (_ :: _ :: _ :: _ :: _ :: _ :: _ :: _ :: F)) from g9)
      refine zAe (qn ⟨g9.drop.tail.tail.tail.tail.tail, ?_⟩)
      refine d_w rfl (fun _ => zAi (v := .tuple _) rfl rfl) rfl ?_
      refine d_w rfl (fun _ => zAh (v := .pointer _) rfl rfl rfl) rfl ?_
      refine d_w rfl (fun _ => zAh (v := .int _ _) rfl rfl rfl) rfl ?_
      have hH := ((((((((g9.perm ((List.Perm.append_left M (zAa [_,_,_,_,_,_,_] [_] _)).trans (zAa M [_] _))).perm ((List.Perm.append_left [_] ((List.Perm.append_left M (zAa [_,_,_,_,_,_] [_] _)).trans (zAa M [_] _))).trans (zAa [_] [_] _))).perm ((List.Perm.append_left [_,_] ((List.Perm.append_left M (zAa [_,_,_,_,_] [_] _)).trans (zAa M [_] _))).trans (zAa [_,_] [_] _))).perm ((List.Perm.append_left [_,_,_] ((List.Perm.append_left M (zAa [_,_,_,_] [_] _)).trans (zAa M [_] _))).trans (zAa [_,_,_] [_] _))).perm ((List.Perm.append_left [_,_,_,_] ((List.Perm.append_left M (zAa [_,_,_] [_] _)).trans (zAa M [_] _))).trans (zAa [_,_,_,_] [_] _))).perm ((List.Perm.append_left [_,_,_,_,_] ((List.Perm.append_left M (zAa [_,_] [_] _)).trans (zAa M [_] _))).trans (zAa [_,_,_,_,_] [_] _))).perm ((List.Perm.append_left [_,_,_,_,_,_] ((List.Perm.append_left M (zAa [_] [_] _)).trans (zAa M [_] _))).trans (zAa [_,_,_,_,_,_] [_] _))).perm ((List.Perm.append_left [_,_,_,_,_,_,_] (zAa M [_] _)).trans (zAa [_,_,_,_,_,_,_] [_] _)))
      replace hH := (show St _ _ (_ :: _ :: _ :: _ :: _ :: _ :: _ :: _ :: M ++ (F)) from hH)
      refine zBm rfl ?_
      refine zAs (i := 2) (v := .pointer _) (vs := [_]) zAb sizeOf69 rfl rfl rfl rfl rfl (by simp [Value.oneCell']) hH rfl (zNl rfl) (fun s9 ma => ?_)
      refine zAe (qn ?_)
      refine d_w rfl (fun _ => zA2 rfl rfl) rfl ?_
      refine zBh ?_
      refine zAd (g0 _ _ (Md.intro (by repeat (first | exact zAz | exact zA5 | refine zA4 rfl ?_ | refine zAw rfl ?_ _ | refine zAt rfl ?_)) ?_))
      have hN := (((ma.perm (zAa [_] [_] _)).tail.perm (zAa [_,_] [_] _)).tail.perm (zAa [_,_] [_] _)).tail
      replace hN := (show St _ _ (_ :: _ :: _ :: _ :: _ :: M ++ (F)) from hN)
      exact ⟨_, .inr ⟨hee, cb, mm, M, rfl, hM, hN⟩⟩
     refine zA0 (cs := [_]) zAb zeroValue69 rfl gO (fun sa sb k4 => ?_)
     refine zAe (qn ⟨k4.tail.tail.tail, ?_⟩)
     refine zBl rfl ?_
     refine zAr zAb call39 rfl rfl rfl rfl (c39 _ (by omega) _ _ [_] (by simp) (zBd (i := 2) (rows := [[_]]) rfl (by simp) rfl) k4) ?_
     rintro _ sc ⟨rfl, k5⟩
     refine zAe (qn ⟨k5.tail.tail.tail, ?_⟩)
     refine zBl rfl ?_
     refine zAr zAb call33 rfl rfl rfl rfl (c33 c _ hm.cons.cons.cons.cons.cons.cons _ _ [_] (by simp) (zBd (i := 1) (rows := [[_]]) rfl (by simp) rfl) k5) ?_
     rintro _ sd ⟨rfl, k6⟩
     refine zAe (qn ⟨k6.tail.tail.tail, ?_⟩)
     refine zBl rfl ?_
     refine zA3 (ps := [(0, _),(1, _)]) (pv := [(0, .agg #[.bool _, .int _ _]),(1, .agg #[.bool _, .int _ _])]) (cs := [_,_,_,_]) zAb rfl rfl (fun w => zCk _ _ _ _ w) k6 (fun se sf k7 => ?_)
     refine zAe (qn ⟨k7.tail.tail.tail.tail, ?_⟩)
     refine zBl rfl ?_
     refine zAr zAb call32 rfl rfl rfl rfl (c32 c _ hm.cons.cons.cons.cons.cons.cons.cons _ _ (outL c hold until_) (by simp [spoilsL, putL, outL]) (fun x hx _ => by simp only [outL, List.mem_cons, List.not_mem_nil, or_false] at hx; rcases hx with rfl | rfl <;> simp [noneA, hoursA]) (zBd (i := 0) (rows := (arows (outL c hold until_))) rfl (fun row h => by obtain ⟨x, _, rfl⟩ := List.mem_map.1 h; rfl) rfl) k7) ?_
     rintro _ sg (⟨hee, rfl, ga⟩ | ⟨hee, cb, mm, M, rfl, hM, ga⟩)
     ·
      refine zAe (qn ⟨ga.tail.tail.tail.tail, ?_⟩)
      refine d_w rfl (fun _ => zAi (v := .tuple _) rfl rfl) rfl ?_
      refine d_w rfl (fun _ => zAh (v := .pointer _) rfl rfl rfl) rfl ?_
      refine d_w rfl (fun _ => zAh (v := .int _ _) rfl rfl rfl) rfl ?_
      replace ga := (show St _ _ (_ :: _ :: _ :: _ :: _ :: _ :: _ :: F) from ga)
      refine zBm rfl ?_
      refine zAs (i := 1) (v := .pointer _) (vs := [_]) zAb sizeOf69 rfl rfl rfl rfl rfl (by simp [Value.oneCell']) ga rfl (zNl rfl) (fun sh mb => ?_)
      refine zAe (qn ?_)
      refine d_w rfl (fun _ => zA2 rfl rfl) rfl ?_
      refine zBh ?_
      refine zAd (g0 _ _ (Md.intro (by repeat (first | exact zAz | exact zA5 | refine zA4 rfl ?_ | refine zAw rfl ?_ _ | refine zAt rfl ?_)) ?_))
      have hO := mb.tail.tail.tail.tail
      replace hO := (show St _ _ (_ :: _ :: _ :: F) from hO)
      exact ⟨_, .inl ⟨hee, rfl, hO⟩⟩
     replace ga := (show St _ _ (M ++ (_ :: _ :: _ :: _ :: _ :: _ :: _ :: _ :: F)) from ga)
     refine zAe (qn ⟨ga.drop.tail.tail.tail.tail.tail, ?_⟩)
     refine d_w rfl (fun _ => zAi (v := .tuple _) rfl rfl) rfl ?_
     refine d_w rfl (fun _ => zAh (v := .pointer _) rfl rfl rfl) rfl ?_
     refine d_w rfl (fun _ => zAh (v := .int _ _) rfl rfl rfl) rfl ?_
     have hP := ((((((((ga.perm ((List.Perm.append_left M (zAa [_,_,_,_,_,_,_] [_] _)).trans (zAa M [_] _))).perm ((List.Perm.append_left [_] ((List.Perm.append_left M (zAa [_,_,_,_,_,_] [_] _)).trans (zAa M [_] _))).trans (zAa [_] [_] _))).perm ((List.Perm.append_left [_,_] ((List.Perm.append_left M (zAa [_,_,_,_,_] [_] _)).trans (zAa M [_] _))).trans (zAa [_,_] [_] _))).perm ((List.Perm.append_left [_,_,_] ((List.Perm.append_left M (zAa [_,_,_,_] [_] _)).trans (zAa M [_] _))).trans (zAa [_,_,_] [_] _))).perm ((List.Perm.append_left [_,_,_,_] ((List.Perm.append_left M (zAa [_,_,_] [_] _)).trans (zAa M [_] _))).trans (zAa [_,_,_,_] [_] _))).perm ((List.Perm.append_left [_,_,_,_,_] ((List.Perm.append_left M (zAa [_,_] [_] _)).trans (zAa M [_] _))).trans (zAa [_,_,_,_,_] [_] _))).perm ((List.Perm.append_left [_,_,_,_,_,_] ((List.Perm.append_left M (zAa [_] [_] _)).trans (zAa M [_] _))).trans (zAa [_,_,_,_,_,_] [_] _))).perm ((List.Perm.append_left [_,_,_,_,_,_,_] (zAa M [_] _)).trans (zAa [_,_,_,_,_,_,_] [_] _)))
     replace hP := (show St _ _ (_ :: _ :: _ :: _ :: _ :: _ :: _ :: _ :: M ++ (F)) from hP)
     refine zBm rfl ?_
     refine zAs (i := 2) (v := .pointer _) (vs := [_]) zAb sizeOf69 rfl rfl rfl rfl rfl (by simp [Value.oneCell']) hP rfl (zNl rfl) (fun si mc => ?_)
     refine zAe (qn ?_)
     refine d_w rfl (fun _ => zA2 rfl rfl) rfl ?_
     refine zBh ?_
     refine zAd (g0 _ _ (Md.intro (by repeat (first | exact zAz | exact zA5 | refine zA4 rfl ?_ | refine zAw rfl ?_ _ | refine zAt rfl ?_)) ?_))
     have hX := (((mc.perm (zAa [_] [_] _)).tail.perm (zAa [_,_] [_] _)).tail.perm (zAa [_,_] [_] _)).tail
     replace hX := (show St _ _ (_ :: _ :: _ :: _ :: _ :: M ++ (F)) from hX)
     exact ⟨_, .inr ⟨hee, cb, mm, M, rfl, hM, hX⟩⟩
    refine zA0 (cs := [_]) zAb zeroValue69 rfl gp (fun sj sk hY => ?_)
    refine zAe (qn ⟨hY.tail.tail, ?_⟩)
    refine zBh ⟨zDm rfl ?_, zDm rfl ?_⟩
    ·
     refine zAr zAb call39 rfl rfl rfl rfl (c39 _ (by omega) _ _ [_] (by simp) (zBd (i := 1) (rows := [[_]]) rfl (by simp) rfl) hY) ?_
     rintro _ sm ⟨rfl, k8⟩
     refine zAe (qn ⟨k8.tail.tail, ?_⟩)
     refine zBl rfl ?_
     refine zA3 (ps := [(0, _)]) (pv := [(0, .int _ _)]) (cs := [_]) zAb rfl rfl (fun w => zCz _ w) k8 (fun sn so k9 => ?_)
     refine zAe (qn ⟨k9.tail.tail.tail, ?_⟩)
     refine zBl rfl ?_
     refine zAr zAb call33 rfl rfl rfl rfl (c33 c _ hm.cons.cons.cons.cons.cons.cons _ _ [_] (by simp) (zBd (i := 0) (rows := [[_]]) rfl (by simp) rfl) k9) ?_
     rintro _ sq ⟨rfl, ka⟩
     refine zAe (qn ⟨ka.tail.tail.tail, ?_⟩)
     refine zBl rfl ?_
     refine zA3 (ps := [(0, _),(1, _)]) (pv := [(0, .agg #[.bool _, .int _ _]),(1, .agg #[.bool _, .int _ _])]) (cs := [_,_,_,_]) zAb rfl rfl (fun w => zCk _ _ _ _ w) ka (fun sr st kb => ?_)
     refine zAe (qn ⟨kb.tail.tail.tail.tail, ?_⟩)
     refine zBl rfl ?_
     refine zAr zAb call32 rfl rfl rfl rfl (c32 c _ hm.cons.cons.cons.cons.cons.cons.cons _ _ (outL c hold until_) (by simp [spoilsL, putL, outL]) (fun x hx _ => by simp only [outL, List.mem_cons, List.not_mem_nil, or_false] at hx; rcases hx with rfl | rfl <;> simp [noneA, hoursA]) (zBd (i := 0) (rows := (arows (outL c hold until_))) rfl (fun row h => by obtain ⟨x, _, rfl⟩ := List.mem_map.1 h; rfl) rfl) kb) ?_
     rintro _ su (⟨hee, rfl, gb⟩ | ⟨hee, cb, mm, M, rfl, hM, gb⟩)
     ·
      refine zAe (qn ⟨gb.tail.tail.tail.tail, ?_⟩)
      refine d_w rfl (fun _ => zAi (v := .tuple _) rfl rfl) rfl ?_
      refine d_w rfl (fun _ => zAh (v := .pointer _) rfl rfl rfl) rfl ?_
      refine d_w rfl (fun _ => zAh (v := .int _ _) rfl rfl rfl) rfl ?_
      replace gb := (show St _ _ (_ :: _ :: _ :: _ :: _ :: _ :: _ :: F) from gb)
      refine zBm rfl ?_
      refine zAs (i := 2) (v := .pointer _) (vs := [_]) zAb sizeOf69 rfl rfl rfl rfl rfl (by simp [Value.oneCell']) gb rfl (zNl rfl) (fun sv md => ?_)
      refine zAe (qn ?_)
      refine d_w rfl (fun _ => zA2 rfl rfl) rfl ?_
      refine zBh ?_
      refine zAd (g0 _ _ (Md.intro (by repeat (first | exact zAz | exact zA5 | refine zA4 rfl ?_ | refine zAw rfl ?_ _ | refine zAt rfl ?_)) ?_))
      have j0 := md.tail.tail.tail.tail
      replace j0 := (show St _ _ (_ :: _ :: _ :: F) from j0)
      exact ⟨_, .inl ⟨hee, rfl, j0⟩⟩
     replace gb := (show St _ _ (M ++ (_ :: _ :: _ :: _ :: _ :: _ :: _ :: _ :: F)) from gb)
     refine zAe (qn ⟨gb.drop.tail.tail.tail.tail.tail, ?_⟩)
     refine d_w rfl (fun _ => zAi (v := .tuple _) rfl rfl) rfl ?_
     refine d_w rfl (fun _ => zAh (v := .pointer _) rfl rfl rfl) rfl ?_
     refine d_w rfl (fun _ => zAh (v := .int _ _) rfl rfl rfl) rfl ?_
     have j1 := ((((((((gb.perm ((List.Perm.append_left M (zAa [_,_,_,_,_,_,_] [_] _)).trans (zAa M [_] _))).perm ((List.Perm.append_left [_] ((List.Perm.append_left M (zAa [_,_,_,_,_,_] [_] _)).trans (zAa M [_] _))).trans (zAa [_] [_] _))).perm ((List.Perm.append_left [_,_] ((List.Perm.append_left M (zAa [_,_,_,_,_] [_] _)).trans (zAa M [_] _))).trans (zAa [_,_] [_] _))).perm ((List.Perm.append_left [_,_,_] ((List.Perm.append_left M (zAa [_,_,_,_] [_] _)).trans (zAa M [_] _))).trans (zAa [_,_,_] [_] _))).perm ((List.Perm.append_left [_,_,_,_] ((List.Perm.append_left M (zAa [_,_,_] [_] _)).trans (zAa M [_] _))).trans (zAa [_,_,_,_] [_] _))).perm ((List.Perm.append_left [_,_,_,_,_] ((List.Perm.append_left M (zAa [_,_] [_] _)).trans (zAa M [_] _))).trans (zAa [_,_,_,_,_] [_] _))).perm ((List.Perm.append_left [_,_,_,_,_,_] ((List.Perm.append_left M (zAa [_] [_] _)).trans (zAa M [_] _))).trans (zAa [_,_,_,_,_,_] [_] _))).perm ((List.Perm.append_left [_,_,_,_,_,_,_] (zAa M [_] _)).trans (zAa [_,_,_,_,_,_,_] [_] _)))
     replace j1 := (show St _ _ (_ :: _ :: _ :: _ :: _ :: _ :: _ :: _ :: M ++ (F)) from j1)
     refine zBm rfl ?_
     refine zAs (i := 3) (v := .pointer _) (vs := [_]) zAb sizeOf69 rfl rfl rfl rfl rfl (by simp [Value.oneCell']) j1 rfl (zNl rfl) (fun sw me => ?_)
     refine zAe (qn ?_)
     refine d_w rfl (fun _ => zA2 rfl rfl) rfl ?_
     refine zBh ?_
     refine zAd (g0 _ _ (Md.intro (by repeat (first | exact zAz | exact zA5 | refine zA4 rfl ?_ | refine zAw rfl ?_ _ | refine zAt rfl ?_)) ?_))
     have j2 := (((me.perm (zAa [_] [_] _)).tail.perm (zAa [_] [_] _)).tail.perm (zAa [_,_] [_] _)).tail
     replace j2 := (show St _ _ (_ :: _ :: _ :: _ :: _ :: M ++ (F)) from j2)
     exact ⟨_, .inr ⟨hee, cb, mm, M, rfl, hM, j2⟩⟩
    refine zA3 (ps := [(0, _)]) (pv := [(0, .int _ _)]) (cs := [_]) zAb rfl rfl (fun w => zCz _ w) hY (fun sx sy kc => ?_)
    refine zAe (qn ⟨kc.tail.tail.tail, ?_⟩)
    refine zBl rfl ?_
    refine zAr zAb call39 rfl rfl rfl rfl (c39 _ (by omega) _ _ [_] (by simp) (zBd (i := 2) (rows := [[_]]) rfl (by simp) rfl) kc) ?_
    rintro _ sA ⟨rfl, kd⟩
    refine zAe (qn ⟨kd.tail.tail.tail, ?_⟩)
    refine zBl rfl ?_
    refine zAr zAb call33 rfl rfl rfl rfl (c33 c _ hm.cons.cons.cons.cons.cons.cons _ _ [_] (by simp) (zBd (i := 0) (rows := [[_]]) rfl (by simp) rfl) kd) ?_
    rintro _ sB ⟨rfl, ke⟩
    refine zAe (qn ⟨ke.tail.tail.tail, ?_⟩)
    refine zBl rfl ?_
    refine zA3 (ps := [(0, _),(1, _)]) (pv := [(0, .agg #[.bool _, .int _ _]),(1, .agg #[.bool _, .int _ _])]) (cs := [_,_,_,_]) zAb rfl rfl (fun w => zCk _ _ _ _ w) ke (fun sC sD kf => ?_)
    refine zAe (qn ⟨kf.tail.tail.tail.tail, ?_⟩)
    refine zBl rfl ?_
    refine zAr zAb call32 rfl rfl rfl rfl (c32 c _ hm.cons.cons.cons.cons.cons.cons.cons _ _ (outL c hold until_) (by simp [spoilsL, putL, outL]) (fun x hx _ => by simp only [outL, List.mem_cons, List.not_mem_nil, or_false] at hx; rcases hx with rfl | rfl <;> simp [noneA, hoursA]) (zBd (i := 0) (rows := (arows (outL c hold until_))) rfl (fun row h => by obtain ⟨x, _, rfl⟩ := List.mem_map.1 h; rfl) rfl) kf) ?_
    rintro _ sE (⟨hee, rfl, gc⟩ | ⟨hee, cb, mm, M, rfl, hM, gc⟩)
    ·
     refine zAe (qn ⟨gc.tail.tail.tail.tail, ?_⟩)
     refine d_w rfl (fun _ => zAi (v := .tuple _) rfl rfl) rfl ?_
     refine d_w rfl (fun _ => zAh (v := .pointer _) rfl rfl rfl) rfl ?_
     refine d_w rfl (fun _ => zAh (v := .int _ _) rfl rfl rfl) rfl ?_
     replace gc := (show St _ _ (_ :: _ :: _ :: _ :: _ :: _ :: _ :: F) from gc)
     refine zBm rfl ?_
     refine zAs (i := 2) (v := .pointer _) (vs := [_]) zAb sizeOf69 rfl rfl rfl rfl rfl (by simp [Value.oneCell']) gc rfl (zNl rfl) (fun sF mf => ?_)
     refine zAe (qn ?_)
     refine d_w rfl (fun _ => zA2 rfl rfl) rfl ?_
     refine zBh ?_
     refine zAd (g0 _ _ (Md.intro (by repeat (first | exact zAz | exact zA5 | refine zA4 rfl ?_ | refine zAw rfl ?_ _ | refine zAt rfl ?_)) ?_))
     have j3 := mf.tail.tail.tail.tail
     replace j3 := (show St _ _ (_ :: _ :: _ :: F) from j3)
     exact ⟨_, .inl ⟨hee, rfl, j3⟩⟩
    replace gc := (show St _ _ (M ++ (_ :: _ :: _ :: _ :: _ :: _ :: _ :: _ :: F)) from gc)
    refine zAe (qn ⟨gc.drop.tail.tail.tail.tail.tail, ?_⟩)
    refine d_w rfl (fun _ => zAi (v := .tuple _) rfl rfl) rfl ?_
    refine d_w rfl (fun _ => zAh (v := .pointer _) rfl rfl rfl) rfl ?_
    refine d_w rfl (fun _ => zAh (v := .int _ _) rfl rfl rfl) rfl ?_
    have j4 := ((((((((gc.perm ((List.Perm.append_left M (zAa [_,_,_,_,_,_,_] [_] _)).trans (zAa M [_] _))).perm ((List.Perm.append_left [_] ((List.Perm.append_left M (zAa [_,_,_,_,_,_] [_] _)).trans (zAa M [_] _))).trans (zAa [_] [_] _))).perm ((List.Perm.append_left [_,_] ((List.Perm.append_left M (zAa [_,_,_,_,_] [_] _)).trans (zAa M [_] _))).trans (zAa [_,_] [_] _))).perm ((List.Perm.append_left [_,_,_] ((List.Perm.append_left M (zAa [_,_,_,_] [_] _)).trans (zAa M [_] _))).trans (zAa [_,_,_] [_] _))).perm ((List.Perm.append_left [_,_,_,_] ((List.Perm.append_left M (zAa [_,_,_] [_] _)).trans (zAa M [_] _))).trans (zAa [_,_,_,_] [_] _))).perm ((List.Perm.append_left [_,_,_,_,_] ((List.Perm.append_left M (zAa [_,_] [_] _)).trans (zAa M [_] _))).trans (zAa [_,_,_,_,_] [_] _))).perm ((List.Perm.append_left [_,_,_,_,_,_] ((List.Perm.append_left M (zAa [_] [_] _)).trans (zAa M [_] _))).trans (zAa [_,_,_,_,_,_] [_] _))).perm ((List.Perm.append_left [_,_,_,_,_,_,_] (zAa M [_] _)).trans (zAa [_,_,_,_,_,_,_] [_] _)))
    replace j4 := (show St _ _ (_ :: _ :: _ :: _ :: _ :: _ :: _ :: _ :: M ++ (F)) from j4)
    refine zBm rfl ?_
    refine zAs (i := 3) (v := .pointer _) (vs := [_]) zAb sizeOf69 rfl rfl rfl rfl rfl (by simp [Value.oneCell']) j4 rfl (zNl rfl) (fun sG mg => ?_)
    refine zAe (qn ?_)
    refine d_w rfl (fun _ => zA2 rfl rfl) rfl ?_
    refine zBh ?_
    refine zAd (g0 _ _ (Md.intro (by repeat (first | exact zAz | exact zA5 | refine zA4 rfl ?_ | refine zAw rfl ?_ _ | refine zAt rfl ?_)) ?_))
    have j5 := (((mg.perm (zAa [_] [_] _)).tail.perm (zAa [_] [_] _)).tail.perm (zAa [_,_] [_] _)).tail
    replace j5 := (show St _ _ (_ :: _ :: _ :: _ :: _ :: M ++ (F)) from j5)
    exact ⟨_, .inr ⟨hee, cb, mm, M, rfl, hM, j5⟩⟩
   ·
    refine zA3 (ps := [(0, _)]) (pv := [(0, .int _ _)]) (cs := [_]) zAb rfl rfl (fun w => zCz _ w) gl (fun sH sI j6 => ?_)
    refine zAe (qn ⟨j6.tail, ?_⟩)
    refine zBh ⟨zDm rfl ?_, zDm rfl ?_⟩
    ·
     refine zA3 (ps := [(0, _)]) (pv := [(0, .int _ _)]) (cs := [_]) zAb rfl rfl (fun w => zCz _ w) j6 (fun sJ sK j7 => ?_)
     refine zAe (qn ⟨j7.tail.tail, ?_⟩)
     refine zBh ⟨zDm rfl ?_, zDm rfl ?_⟩
     ·
      refine zAr zAb call39 rfl rfl rfl rfl (c39 _ (by omega) _ _ [_] (by simp) (zBd (i := 0) (rows := [[_]]) rfl (by simp) rfl) j7) ?_
      rintro _ sL ⟨rfl, j8⟩
      refine zAe (qn ⟨j8.tail.tail, ?_⟩)
      refine zBh ⟨zDm rfl ?_, zDm rfl ?_⟩
      ·
       refine zAr zAb call33 rfl rfl rfl rfl (c33 c _ hm.cons.cons.cons.cons.cons _ _ [_] (by simp) (zBd (i := 1) (rows := [[_]]) rfl (by simp) rfl) j8) ?_
       rintro _ sM ⟨rfl, j9⟩
       refine zAe (qn ⟨j9.tail.tail, ?_⟩)
       refine zBh ⟨zDm rfl ?_, zDm rfl ?_⟩
       ·
        refine zA3 (ps := [(0, _),(1, _)]) (pv := [(0, .agg #[.bool _, .int _ _]),(1, .agg #[.bool _, .int _ _])]) (cs := [_,_,_,_]) zAb rfl rfl (fun w => zCk _ _ _ _ w) j9 (fun sN sO ja => ?_)
        refine zAe (qn ⟨ja.tail.tail.tail, ?_⟩)
        refine zBh ⟨zDm rfl ?_, zDm rfl ?_⟩
        ·
         refine zAr zAb call32 rfl rfl rfl rfl (c32 c _ hm.cons.cons.cons.cons.cons.cons _ _ (outL c hold until_) (by simp [spoilsL, putL, outL]) (fun x hx _ => by simp only [outL, List.mem_cons, List.not_mem_nil, or_false] at hx; rcases hx with rfl | rfl <;> simp [noneA, hoursA]) (zBd (i := 0) (rows := (arows (outL c hold until_))) rfl (fun row h => by obtain ⟨x, _, rfl⟩ := List.mem_map.1 h; rfl) rfl) ja) ?_
         rintro _ sP (⟨hee, rfl, go⟩ | ⟨hee, cb, mm, M, rfl, hM, go⟩)
         ·
          refine zAe (qn ⟨go.tail.tail.tail, ?_⟩)
          refine d_w rfl (fun _ => zAi (v := .tuple _) rfl rfl) rfl ?_
          refine d_w rfl (fun _ => zAh (v := .pointer _) rfl rfl rfl) rfl ?_
          refine d_w rfl (fun _ => zAh (v := .int _ _) rfl rfl rfl) rfl ?_
          refine zBl rfl ?_
          refine zA0 (cs := [_]) zAb zeroValue69 rfl go (fun sQ sR gt => ?_)
          refine zAe (qn ⟨gt.tail.tail.tail.tail, ?_⟩)
          replace gt := (show St _ _ (_ :: _ :: _ :: _ :: _ :: _ :: _ :: F) from gt)
          refine zBm rfl ?_
          refine zAs (i := 0) (v := .pointer _) (vs := [_]) zAb sizeOf69 rfl rfl rfl rfl rfl (by simp [Value.oneCell']) gt rfl (zNl rfl) (fun sS mh => ?_)
          refine zAe (qn ?_)
          refine d_w rfl (fun _ => zA2 rfl rfl) rfl ?_
          refine zBh ?_
          refine zAd (g0 _ _ (Md.intro (by repeat (first | exact zAz | exact zA5 | refine zA4 rfl ?_ | refine zAw rfl ?_ _ | refine zAt rfl ?_)) ?_))
          have jb := mh.tail.tail.tail.tail
          replace jb := (show St _ _ (_ :: _ :: _ :: F) from jb)
          exact ⟨_, .inl ⟨hee, rfl, jb⟩⟩
         replace go := (show St _ _ (M ++ (_ :: _ :: _ :: _ :: _ :: _ :: _ :: F)) from go)
         refine zAe (qn ⟨go.drop.tail.tail.tail.tail, ?_⟩)
         refine d_w rfl (fun _ => zAi (v := .tuple _) rfl rfl) rfl ?_
         refine d_w rfl (fun _ => zAh (v := .pointer _) rfl rfl rfl) rfl ?_
         refine d_w rfl (fun _ => zAh (v := .int _ _) rfl rfl rfl) rfl ?_
         refine zBl rfl ?_
         refine zA0 (cs := [_]) zAb zeroValue69 rfl go (fun sT sU kg => ?_)
         refine zAe (qn ⟨kg.tail.drop.tail.tail.tail.tail, ?_⟩)
         have jc := (((((((((kg.perm (zAa [_] M _)).perm ((List.Perm.append_left M (zAa [_,_,_,_,_,_,_] [_] _)).trans (zAa M [_] _))).perm ((List.Perm.append_left [_] ((List.Perm.append_left M (zAa [_,_,_,_,_,_] [_] _)).trans (zAa M [_] _))).trans (zAa [_] [_] _))).perm ((List.Perm.append_left [_,_] ((List.Perm.append_left M (zAa [_,_,_,_,_] [_] _)).trans (zAa M [_] _))).trans (zAa [_,_] [_] _))).perm ((List.Perm.append_left [_,_,_] ((List.Perm.append_left M (zAa [_,_,_,_] [_] _)).trans (zAa M [_] _))).trans (zAa [_,_,_] [_] _))).perm ((List.Perm.append_left [_,_,_,_] ((List.Perm.append_left M (zAa [_,_,_] [_] _)).trans (zAa M [_] _))).trans (zAa [_,_,_,_] [_] _))).perm ((List.Perm.append_left [_,_,_,_,_] ((List.Perm.append_left M (zAa [_,_] [_] _)).trans (zAa M [_] _))).trans (zAa [_,_,_,_,_] [_] _))).perm ((List.Perm.append_left [_,_,_,_,_,_] ((List.Perm.append_left M (zAa [_] [_] _)).trans (zAa M [_] _))).trans (zAa [_,_,_,_,_,_] [_] _))).perm ((List.Perm.append_left [_,_,_,_,_,_,_] (zAa M [_] _)).trans (zAa [_,_,_,_,_,_,_] [_] _)))
         replace jc := (show St _ _ (_ :: _ :: _ :: _ :: _ :: _ :: _ :: _ :: M ++ (F)) from jc)
         refine zBm rfl ?_
         refine zAs (i := 0) (v := .pointer _) (vs := [_]) zAb sizeOf69 rfl rfl rfl rfl rfl (by simp [Value.oneCell']) jc rfl (zNl rfl) (fun sV mi => ?_)
         refine zAe (qn ?_)
         refine d_w rfl (fun _ => zA2 rfl rfl) rfl ?_
         refine zBh ?_
         refine zAd (g0 _ _ (Md.intro (by repeat (first | exact zAz | exact zA5 | refine zA4 rfl ?_ | refine zAw rfl ?_ _ | refine zAt rfl ?_)) ?_))
         have jd := (((((((((mi.perm (zAa [_,_] [_] _)).tail.perm (zAa [_,_] [_] _)).tail.perm (zAa [_,_] [_] _)).tail.perm (zAa [_,_,_,_,_] M _)).perm ((List.Perm.append_left M (zAa [_,_,_,_] [_] _)).trans (zAa M [_] _))).perm ((List.Perm.append_left [_] ((List.Perm.append_left M (zAa [_,_,_] [_] _)).trans (zAa M [_] _))).trans (zAa [_] [_] _))).perm ((List.Perm.append_left [_,_] ((List.Perm.append_left M (zAa [_,_] [_] _)).trans (zAa M [_] _))).trans (zAa [_,_] [_] _))).perm ((List.Perm.append_left [_,_,_] (zAa M [_] _)).trans (zAa [_,_,_] [_] _))).perm ((List.Perm.append_left [_,_,_,_] (zAa M [_] _)).trans (zAa [_,_,_,_] [_] _)))
         replace jd := (show St _ _ (_ :: _ :: _ :: _ :: _ :: M ++ (F)) from jd)
         exact ⟨_, .inr ⟨hee, cb, mm, M, rfl, hM, jd⟩⟩
        refine zA0 (cs := [_]) zAb zeroValue69 rfl ja (fun sW sX kh => ?_)
        refine zAe (qn ⟨kh.tail.tail.tail.tail, ?_⟩)
        refine zBl rfl ?_
        refine zAr zAb call32 rfl rfl rfl rfl (c32 c _ hm.cons.cons.cons.cons.cons.cons.cons _ _ (outL c hold until_) (by simp [spoilsL, putL, outL]) (fun x hx _ => by simp only [outL, List.mem_cons, List.not_mem_nil, or_false] at hx; rcases hx with rfl | rfl <;> simp [noneA, hoursA]) (zBd (i := 1) (rows := (arows (outL c hold until_))) rfl (fun row h => by obtain ⟨x, _, rfl⟩ := List.mem_map.1 h; rfl) rfl) kh) ?_
        rintro _ sY (⟨hee, rfl, gd⟩ | ⟨hee, cb, mm, M, rfl, hM, gd⟩)
        ·
         refine zAe (qn ⟨gd.tail.tail.tail.tail, ?_⟩)
         refine d_w rfl (fun _ => zAi (v := .tuple _) rfl rfl) rfl ?_
         refine d_w rfl (fun _ => zAh (v := .pointer _) rfl rfl rfl) rfl ?_
         refine d_w rfl (fun _ => zAh (v := .int _ _) rfl rfl rfl) rfl ?_
         replace gd := (show St _ _ (_ :: _ :: _ :: _ :: _ :: _ :: _ :: F) from gd)
         refine zBm rfl ?_
         refine zAs (i := 0) (v := .pointer _) (vs := [_]) zAb sizeOf69 rfl rfl rfl rfl rfl (by simp [Value.oneCell']) gd rfl (zNl rfl) (fun sZ mj => ?_)
         refine zAe (qn ?_)
         refine d_w rfl (fun _ => zA2 rfl rfl) rfl ?_
         refine zBh ?_
         refine zAd (g0 _ _ (Md.intro (by repeat (first | exact zAz | exact zA5 | refine zA4 rfl ?_ | refine zAw rfl ?_ _ | refine zAt rfl ?_)) ?_))
         have je := mj.tail.tail.tail.tail
         replace je := (show St _ _ (_ :: _ :: _ :: F) from je)
         exact ⟨_, .inl ⟨hee, rfl, je⟩⟩
        replace gd := (show St _ _ (M ++ (_ :: _ :: _ :: _ :: _ :: _ :: _ :: _ :: F)) from gd)
        refine zAe (qn ⟨gd.drop.tail.tail.tail.tail.tail, ?_⟩)
        refine d_w rfl (fun _ => zAi (v := .tuple _) rfl rfl) rfl ?_
        refine d_w rfl (fun _ => zAh (v := .pointer _) rfl rfl rfl) rfl ?_
        refine d_w rfl (fun _ => zAh (v := .int _ _) rfl rfl rfl) rfl ?_
        have jf := ((((((((gd.perm ((List.Perm.append_left M (zAa [_,_,_,_,_,_,_] [_] _)).trans (zAa M [_] _))).perm ((List.Perm.append_left [_] ((List.Perm.append_left M (zAa [_,_,_,_,_,_] [_] _)).trans (zAa M [_] _))).trans (zAa [_] [_] _))).perm ((List.Perm.append_left [_,_] ((List.Perm.append_left M (zAa [_,_,_,_,_] [_] _)).trans (zAa M [_] _))).trans (zAa [_,_] [_] _))).perm ((List.Perm.append_left [_,_,_] ((List.Perm.append_left M (zAa [_,_,_,_] [_] _)).trans (zAa M [_] _))).trans (zAa [_,_,_] [_] _))).perm ((List.Perm.append_left [_,_,_,_] ((List.Perm.append_left M (zAa [_,_,_] [_] _)).trans (zAa M [_] _))).trans (zAa [_,_,_,_] [_] _))).perm ((List.Perm.append_left [_,_,_,_,_] ((List.Perm.append_left M (zAa [_,_] [_] _)).trans (zAa M [_] _))).trans (zAa [_,_,_,_,_] [_] _))).perm ((List.Perm.append_left [_,_,_,_,_,_] ((List.Perm.append_left M (zAa [_] [_] _)).trans (zAa M [_] _))).trans (zAa [_,_,_,_,_,_] [_] _))).perm ((List.Perm.append_left [_,_,_,_,_,_,_] (zAa M [_] _)).trans (zAa [_,_,_,_,_,_,_] [_] _)))
        replace jf := (show St _ _ (_ :: _ :: _ :: _ :: _ :: _ :: _ :: _ :: M ++ (F)) from jf)
        refine zBm rfl ?_
        refine zAs (i := 1) (v := .pointer _) (vs := [_]) zAb sizeOf69 rfl rfl rfl rfl rfl (by simp [Value.oneCell']) jf rfl (zNl rfl) (fun t4 ml => ?_)
        refine zAe (qn ?_)
        refine d_w rfl (fun _ => zA2 rfl rfl) rfl ?_
        refine zBh ?_
        refine zAd (g0 _ _ (Md.intro (by repeat (first | exact zAz | exact zA5 | refine zA4 rfl ?_ | refine zAw rfl ?_ _ | refine zAt rfl ?_)) ?_))
        have jg := (((ml.perm (zAa [_,_] [_] _)).tail.perm (zAa [_,_] [_] _)).tail.perm (zAa [_,_] [_] _)).tail
        replace jg := (show St _ _ (_ :: _ :: _ :: _ :: _ :: M ++ (F)) from jg)
        exact ⟨_, .inr ⟨hee, cb, mm, M, rfl, hM, jg⟩⟩
       refine zA0 (cs := [_]) zAb zeroValue69 rfl j9 (fun t5 t6 ki => ?_)
       refine zAe (qn ⟨ki.tail.tail.tail, ?_⟩)
       refine zBl rfl ?_
       refine zA3 (ps := [(0, _),(1, _)]) (pv := [(0, .agg #[.bool _, .int _ _]),(1, .agg #[.bool _, .int _ _])]) (cs := [_,_,_,_]) zAb rfl rfl (fun w => zCk _ _ _ _ w) ki (fun t7 t8 kj => ?_)
       refine zAe (qn ⟨kj.tail.tail.tail.tail, ?_⟩)
       refine zBl rfl ?_
       refine zAr zAb call32 rfl rfl rfl rfl (c32 c _ hm.cons.cons.cons.cons.cons.cons.cons _ _ (outL c hold until_) (by simp [spoilsL, putL, outL]) (fun x hx _ => by simp only [outL, List.mem_cons, List.not_mem_nil, or_false] at hx; rcases hx with rfl | rfl <;> simp [noneA, hoursA]) (zBd (i := 0) (rows := (arows (outL c hold until_))) rfl (fun row h => by obtain ⟨x, _, rfl⟩ := List.mem_map.1 h; rfl) rfl) kj) ?_
       rintro _ ta (⟨hee, rfl, ge⟩ | ⟨hee, cb, mm, M, rfl, hM, ge⟩)
       ·
        refine zAe (qn ⟨ge.tail.tail.tail.tail, ?_⟩)
        refine d_w rfl (fun _ => zAi (v := .tuple _) rfl rfl) rfl ?_
        refine d_w rfl (fun _ => zAh (v := .pointer _) rfl rfl rfl) rfl ?_
        refine d_w rfl (fun _ => zAh (v := .int _ _) rfl rfl rfl) rfl ?_
        replace ge := (show St _ _ (_ :: _ :: _ :: _ :: _ :: _ :: _ :: F) from ge)
        refine zBm rfl ?_
        refine zAs (i := 1) (v := .pointer _) (vs := [_]) zAb sizeOf69 rfl rfl rfl rfl rfl (by simp [Value.oneCell']) ge rfl (zNl rfl) (fun tc mn => ?_)
        refine zAe (qn ?_)
        refine d_w rfl (fun _ => zA2 rfl rfl) rfl ?_
        refine zBh ?_
        refine zAd (g0 _ _ (Md.intro (by repeat (first | exact zAz | exact zA5 | refine zA4 rfl ?_ | refine zAw rfl ?_ _ | refine zAt rfl ?_)) ?_))
        have jh := mn.tail.tail.tail.tail
        replace jh := (show St _ _ (_ :: _ :: _ :: F) from jh)
        exact ⟨_, .inl ⟨hee, rfl, jh⟩⟩
       replace ge := (show St _ _ (M ++ (_ :: _ :: _ :: _ :: _ :: _ :: _ :: _ :: F)) from ge)
       refine zAe (qn ⟨ge.drop.tail.tail.tail.tail.tail, ?_⟩)
       refine d_w rfl (fun _ => zAi (v := .tuple _) rfl rfl) rfl ?_
       refine d_w rfl (fun _ => zAh (v := .pointer _) rfl rfl rfl) rfl ?_
       refine d_w rfl (fun _ => zAh (v := .int _ _) rfl rfl rfl) rfl ?_
       have ji := ((((((((ge.perm ((List.Perm.append_left M (zAa [_,_,_,_,_,_,_] [_] _)).trans (zAa M [_] _))).perm ((List.Perm.append_left [_] ((List.Perm.append_left M (zAa [_,_,_,_,_,_] [_] _)).trans (zAa M [_] _))).trans (zAa [_] [_] _))).perm ((List.Perm.append_left [_,_] ((List.Perm.append_left M (zAa [_,_,_,_,_] [_] _)).trans (zAa M [_] _))).trans (zAa [_,_] [_] _))).perm ((List.Perm.append_left [_,_,_] ((List.Perm.append_left M (zAa [_,_,_,_] [_] _)).trans (zAa M [_] _))).trans (zAa [_,_,_] [_] _))).perm ((List.Perm.append_left [_,_,_,_] ((List.Perm.append_left M (zAa [_,_,_] [_] _)).trans (zAa M [_] _))).trans (zAa [_,_,_,_] [_] _))).perm ((List.Perm.append_left [_,_,_,_,_] ((List.Perm.append_left M (zAa [_,_] [_] _)).trans (zAa M [_] _))).trans (zAa [_,_,_,_,_] [_] _))).perm ((List.Perm.append_left [_,_,_,_,_,_] ((List.Perm.append_left M (zAa [_] [_] _)).trans (zAa M [_] _))).trans (zAa [_,_,_,_,_,_] [_] _))).perm ((List.Perm.append_left [_,_,_,_,_,_,_] (zAa M [_] _)).trans (zAa [_,_,_,_,_,_,_] [_] _)))
       replace ji := (show St _ _ (_ :: _ :: _ :: _ :: _ :: _ :: _ :: _ :: M ++ (F)) from ji)
       refine zBm rfl ?_
       refine zAs (i := 2) (v := .pointer _) (vs := [_]) zAb sizeOf69 rfl rfl rfl rfl rfl (by simp [Value.oneCell']) ji rfl (zNl rfl) (fun td mo => ?_)
       refine zAe (qn ?_)
       refine d_w rfl (fun _ => zA2 rfl rfl) rfl ?_
       refine zBh ?_
       refine zAd (g0 _ _ (Md.intro (by repeat (first | exact zAz | exact zA5 | refine zA4 rfl ?_ | refine zAw rfl ?_ _ | refine zAt rfl ?_)) ?_))
       have jj := (((mo.perm (zAa [_] [_] _)).tail.perm (zAa [_,_] [_] _)).tail.perm (zAa [_,_] [_] _)).tail
       replace jj := (show St _ _ (_ :: _ :: _ :: _ :: _ :: M ++ (F)) from jj)
       exact ⟨_, .inr ⟨hee, cb, mm, M, rfl, hM, jj⟩⟩
      refine zA0 (cs := [_]) zAb zeroValue69 rfl j8 (fun te tf km => ?_)
      refine zAe (qn ⟨km.tail.tail.tail, ?_⟩)
      refine zBl rfl ?_
      refine zAr zAb call33 rfl rfl rfl rfl (c33 c _ hm.cons.cons.cons.cons.cons.cons _ _ [_] (by simp) (zBd (i := 2) (rows := [[_]]) rfl (by simp) rfl) km) ?_
      rintro _ tg ⟨rfl, kn⟩
      refine zAe (qn ⟨kn.tail.tail.tail, ?_⟩)
      refine zBl rfl ?_
      refine zA3 (ps := [(0, _),(1, _)]) (pv := [(0, .agg #[.bool _, .int _ _]),(1, .agg #[.bool _, .int _ _])]) (cs := [_,_,_,_]) zAb rfl rfl (fun w => zCk _ _ _ _ w) kn (fun th ti ko => ?_)
      refine zAe (qn ⟨ko.tail.tail.tail.tail, ?_⟩)
      refine zBl rfl ?_
      refine zAr zAb call32 rfl rfl rfl rfl (c32 c _ hm.cons.cons.cons.cons.cons.cons.cons _ _ (outL c hold until_) (by simp [spoilsL, putL, outL]) (fun x hx _ => by simp only [outL, List.mem_cons, List.not_mem_nil, or_false] at hx; rcases hx with rfl | rfl <;> simp [noneA, hoursA]) (zBd (i := 0) (rows := (arows (outL c hold until_))) rfl (fun row h => by obtain ⟨x, _, rfl⟩ := List.mem_map.1 h; rfl) rfl) ko) ?_
      rintro _ tj (⟨hee, rfl, gf⟩ | ⟨hee, cb, mm, M, rfl, hM, gf⟩)
      ·
       refine zAe (qn ⟨gf.tail.tail.tail.tail, ?_⟩)
       refine d_w rfl (fun _ => zAi (v := .tuple _) rfl rfl) rfl ?_
       refine d_w rfl (fun _ => zAh (v := .pointer _) rfl rfl rfl) rfl ?_
       refine d_w rfl (fun _ => zAh (v := .int _ _) rfl rfl rfl) rfl ?_
       replace gf := (show St _ _ (_ :: _ :: _ :: _ :: _ :: _ :: _ :: F) from gf)
       refine zBm rfl ?_
       refine zAs (i := 1) (v := .pointer _) (vs := [_]) zAb sizeOf69 rfl rfl rfl rfl rfl (by simp [Value.oneCell']) gf rfl (zNl rfl) (fun tk mp => ?_)
       refine zAe (qn ?_)
       refine d_w rfl (fun _ => zA2 rfl rfl) rfl ?_
       refine zBh ?_
       refine zAd (g0 _ _ (Md.intro (by repeat (first | exact zAz | exact zA5 | refine zA4 rfl ?_ | refine zAw rfl ?_ _ | refine zAt rfl ?_)) ?_))
       have jk := mp.tail.tail.tail.tail
       replace jk := (show St _ _ (_ :: _ :: _ :: F) from jk)
       exact ⟨_, .inl ⟨hee, rfl, jk⟩⟩
      replace gf := (show St _ _ (M ++ (_ :: _ :: _ :: _ :: _ :: _ :: _ :: _ :: F)) from gf)
      refine zAe (qn ⟨gf.drop.tail.tail.tail.tail.tail, ?_⟩)
      refine d_w rfl (fun _ => zAi (v := .tuple _) rfl rfl) rfl ?_
      refine d_w rfl (fun _ => zAh (v := .pointer _) rfl rfl rfl) rfl ?_
      refine d_w rfl (fun _ => zAh (v := .int _ _) rfl rfl rfl) rfl ?_
      have jl := ((((((((gf.perm ((List.Perm.append_left M (zAa [_,_,_,_,_,_,_] [_] _)).trans (zAa M [_] _))).perm ((List.Perm.append_left [_] ((List.Perm.append_left M (zAa [_,_,_,_,_,_] [_] _)).trans (zAa M [_] _))).trans (zAa [_] [_] _))).perm ((List.Perm.append_left [_,_] ((List.Perm.append_left M (zAa [_,_,_,_,_] [_] _)).trans (zAa M [_] _))).trans (zAa [_,_] [_] _))).perm ((List.Perm.append_left [_,_,_] ((List.Perm.append_left M (zAa [_,_,_,_] [_] _)).trans (zAa M [_] _))).trans (zAa [_,_,_] [_] _))).perm ((List.Perm.append_left [_,_,_,_] ((List.Perm.append_left M (zAa [_,_,_] [_] _)).trans (zAa M [_] _))).trans (zAa [_,_,_,_] [_] _))).perm ((List.Perm.append_left [_,_,_,_,_] ((List.Perm.append_left M (zAa [_,_] [_] _)).trans (zAa M [_] _))).trans (zAa [_,_,_,_,_] [_] _))).perm ((List.Perm.append_left [_,_,_,_,_,_] ((List.Perm.append_left M (zAa [_] [_] _)).trans (zAa M [_] _))).trans (zAa [_,_,_,_,_,_] [_] _))).perm ((List.Perm.append_left [_,_,_,_,_,_,_] (zAa M [_] _)).trans (zAa [_,_,_,_,_,_,_] [_] _)))
      replace jl := (show St _ _ (_ :: _ :: _ :: _ :: _ :: _ :: _ :: _ :: M ++ (F)) from jl)
      refine zBm rfl ?_
      refine zAs (i := 2) (v := .pointer _) (vs := [_]) zAb sizeOf69 rfl rfl rfl rfl rfl (by simp [Value.oneCell']) jl rfl (zNl rfl) (fun tl mq => ?_)
      refine zAe (qn ?_)
      refine d_w rfl (fun _ => zA2 rfl rfl) rfl ?_
      refine zBh ?_
      refine zAd (g0 _ _ (Md.intro (by repeat (first | exact zAz | exact zA5 | refine zA4 rfl ?_ | refine zAw rfl ?_ _ | refine zAt rfl ?_)) ?_))
      have jm := (((mq.perm (zAa [_] [_] _)).tail.perm (zAa [_,_] [_] _)).tail.perm (zAa [_,_] [_] _)).tail
      replace jm := (show St _ _ (_ :: _ :: _ :: _ :: _ :: M ++ (F)) from jm)
      exact ⟨_, .inr ⟨hee, cb, mm, M, rfl, hM, jm⟩⟩
     refine zA0 (cs := [_]) zAb zeroValue69 rfl j7 (fun tm tn kp => ?_)
     refine zAe (qn ⟨kp.tail.tail.tail, ?_⟩)
     refine zBl rfl ?_
     refine zAr zAb call39 rfl rfl rfl rfl (c39 _ (by omega) _ _ [_] (by simp) (zBd (i := 1) (rows := [[_]]) rfl (by simp) rfl) kp) ?_
     rintro _ tp ⟨rfl, kq⟩
     refine zAe (qn ⟨kq.tail.tail.tail, ?_⟩)
     refine zBl rfl ?_
     refine zAr zAb call33 rfl rfl rfl rfl (c33 c _ hm.cons.cons.cons.cons.cons.cons _ _ [_] (by simp) (zBd (i := 2) (rows := [[_]]) rfl (by simp) rfl) kq) ?_
     rintro _ tq ⟨rfl, kr⟩
     refine zAe (qn ⟨kr.tail.tail.tail, ?_⟩)
     refine zBl rfl ?_
     refine zA3 (ps := [(0, _),(1, _)]) (pv := [(0, .agg #[.bool _, .int _ _]),(1, .agg #[.bool _, .int _ _])]) (cs := [_,_,_,_]) zAb rfl rfl (fun w => zCk _ _ _ _ w) kr (fun tr tu ku => ?_)
     refine zAe (qn ⟨ku.tail.tail.tail.tail, ?_⟩)
     refine zBl rfl ?_
     refine zAr zAb call32 rfl rfl rfl rfl (c32 c _ hm.cons.cons.cons.cons.cons.cons.cons _ _ (outL c hold until_) (by simp [spoilsL, putL, outL]) (fun x hx _ => by simp only [outL, List.mem_cons, List.not_mem_nil, or_false] at hx; rcases hx with rfl | rfl <;> simp [noneA, hoursA]) (zBd (i := 0) (rows := (arows (outL c hold until_))) rfl (fun row h => by obtain ⟨x, _, rfl⟩ := List.mem_map.1 h; rfl) rfl) ku) ?_
     rintro _ tv (⟨hee, rfl, gg⟩ | ⟨hee, cb, mm, M, rfl, hM, gg⟩)
     ·
      refine zAe (qn ⟨gg.tail.tail.tail.tail, ?_⟩)
      refine d_w rfl (fun _ => zAi (v := .tuple _) rfl rfl) rfl ?_
      refine d_w rfl (fun _ => zAh (v := .pointer _) rfl rfl rfl) rfl ?_
      refine d_w rfl (fun _ => zAh (v := .int _ _) rfl rfl rfl) rfl ?_
      replace gg := (show St _ _ (_ :: _ :: _ :: _ :: _ :: _ :: _ :: F) from gg)
      refine zBm rfl ?_
      refine zAs (i := 1) (v := .pointer _) (vs := [_]) zAb sizeOf69 rfl rfl rfl rfl rfl (by simp [Value.oneCell']) gg rfl (zNl rfl) (fun tx mr => ?_)
      refine zAe (qn ?_)
      refine d_w rfl (fun _ => zA2 rfl rfl) rfl ?_
      refine zBh ?_
      refine zAd (g0 _ _ (Md.intro (by repeat (first | exact zAz | exact zA5 | refine zA4 rfl ?_ | refine zAw rfl ?_ _ | refine zAt rfl ?_)) ?_))
      have jn := mr.tail.tail.tail.tail
      replace jn := (show St _ _ (_ :: _ :: _ :: F) from jn)
      exact ⟨_, .inl ⟨hee, rfl, jn⟩⟩
     replace gg := (show St _ _ (M ++ (_ :: _ :: _ :: _ :: _ :: _ :: _ :: _ :: F)) from gg)
     refine zAe (qn ⟨gg.drop.tail.tail.tail.tail.tail, ?_⟩)
     refine d_w rfl (fun _ => zAi (v := .tuple _) rfl rfl) rfl ?_
     refine d_w rfl (fun _ => zAh (v := .pointer _) rfl rfl rfl) rfl ?_
     refine d_w rfl (fun _ => zAh (v := .int _ _) rfl rfl rfl) rfl ?_
     have jo := ((((((((gg.perm ((List.Perm.append_left M (zAa [_,_,_,_,_,_,_] [_] _)).trans (zAa M [_] _))).perm ((List.Perm.append_left [_] ((List.Perm.append_left M (zAa [_,_,_,_,_,_] [_] _)).trans (zAa M [_] _))).trans (zAa [_] [_] _))).perm ((List.Perm.append_left [_,_] ((List.Perm.append_left M (zAa [_,_,_,_,_] [_] _)).trans (zAa M [_] _))).trans (zAa [_,_] [_] _))).perm ((List.Perm.append_left [_,_,_] ((List.Perm.append_left M (zAa [_,_,_,_] [_] _)).trans (zAa M [_] _))).trans (zAa [_,_,_] [_] _))).perm ((List.Perm.append_left [_,_,_,_] ((List.Perm.append_left M (zAa [_,_,_] [_] _)).trans (zAa M [_] _))).trans (zAa [_,_,_,_] [_] _))).perm ((List.Perm.append_left [_,_,_,_,_] ((List.Perm.append_left M (zAa [_,_] [_] _)).trans (zAa M [_] _))).trans (zAa [_,_,_,_,_] [_] _))).perm ((List.Perm.append_left [_,_,_,_,_,_] ((List.Perm.append_left M (zAa [_] [_] _)).trans (zAa M [_] _))).trans (zAa [_,_,_,_,_,_] [_] _))).perm ((List.Perm.append_left [_,_,_,_,_,_,_] (zAa M [_] _)).trans (zAa [_,_,_,_,_,_,_] [_] _)))
     replace jo := (show St _ _ (_ :: _ :: _ :: _ :: _ :: _ :: _ :: _ :: M ++ (F)) from jo)
     refine zBm rfl ?_
     refine zAs (i := 2) (v := .pointer _) (vs := [_]) zAb sizeOf69 rfl rfl rfl rfl rfl (by simp [Value.oneCell']) jo rfl (zNl rfl) (fun tz ms => ?_)
     refine zAe (qn ?_)
     refine d_w rfl (fun _ => zA2 rfl rfl) rfl ?_
     refine zBh ?_
     refine zAd (g0 _ _ (Md.intro (by repeat (first | exact zAz | exact zA5 | refine zA4 rfl ?_ | refine zAw rfl ?_ _ | refine zAt rfl ?_)) ?_))
     have jp := (((ms.perm (zAa [_] [_] _)).tail.perm (zAa [_,_] [_] _)).tail.perm (zAa [_,_] [_] _)).tail
     replace jp := (show St _ _ (_ :: _ :: _ :: _ :: _ :: M ++ (F)) from jp)
     exact ⟨_, .inr ⟨hee, cb, mm, M, rfl, hM, jp⟩⟩
    refine zA0 (cs := [_]) zAb zeroValue69 rfl j6 (fun tA tB kw => ?_)
    refine zAe (qn ⟨kw.tail.tail, ?_⟩)
    refine zBl rfl ?_
    refine zA3 (ps := [(0, _)]) (pv := [(0, .int _ _)]) (cs := [_]) zAb rfl rfl (fun w => zCz _ w) kw (fun tC tD kx => ?_)
    refine zAe (qn ⟨kx.tail.tail.tail, ?_⟩)
    refine zBl rfl ?_
    refine zAr zAb call39 rfl rfl rfl rfl (c39 _ (by omega) _ _ [_] (by simp) (zBd (i := 0) (rows := [[_]]) rfl (by simp) rfl) kx) ?_
    rintro _ tE ⟨rfl, ky⟩
    refine zAe (qn ⟨ky.tail.tail.tail, ?_⟩)
    refine zBl rfl ?_
    refine zAr zAb call33 rfl rfl rfl rfl (c33 c _ hm.cons.cons.cons.cons.cons.cons _ _ [_] (by simp) (zBd (i := 2) (rows := [[_]]) rfl (by simp) rfl) ky) ?_
    rintro _ tF ⟨rfl, kz⟩
    refine zAe (qn ⟨kz.tail.tail.tail, ?_⟩)
    refine zBl rfl ?_
    refine zA3 (ps := [(0, _),(1, _)]) (pv := [(0, .agg #[.bool _, .int _ _]),(1, .agg #[.bool _, .int _ _])]) (cs := [_,_,_,_]) zAb rfl rfl (fun w => zCk _ _ _ _ w) kz (fun tG tH kA => ?_)
    refine zAe (qn ⟨kA.tail.tail.tail.tail, ?_⟩)
    refine zBl rfl ?_
    refine zAr zAb call32 rfl rfl rfl rfl (c32 c _ hm.cons.cons.cons.cons.cons.cons.cons _ _ (outL c hold until_) (by simp [spoilsL, putL, outL]) (fun x hx _ => by simp only [outL, List.mem_cons, List.not_mem_nil, or_false] at hx; rcases hx with rfl | rfl <;> simp [noneA, hoursA]) (zBd (i := 0) (rows := (arows (outL c hold until_))) rfl (fun row h => by obtain ⟨x, _, rfl⟩ := List.mem_map.1 h; rfl) rfl) kA) ?_
    rintro _ tI (⟨hee, rfl, gh⟩ | ⟨hee, cb, mm, M, rfl, hM, gh⟩)
    ·
     refine zAe (qn ⟨gh.tail.tail.tail.tail, ?_⟩)
     refine d_w rfl (fun _ => zAi (v := .tuple _) rfl rfl) rfl ?_
     refine d_w rfl (fun _ => zAh (v := .pointer _) rfl rfl rfl) rfl ?_
     refine d_w rfl (fun _ => zAh (v := .int _ _) rfl rfl rfl) rfl ?_
     replace gh := (show St _ _ (_ :: _ :: _ :: _ :: _ :: _ :: _ :: F) from gh)
     refine zBm rfl ?_
     refine zAs (i := 2) (v := .pointer _) (vs := [_]) zAb sizeOf69 rfl rfl rfl rfl rfl (by simp [Value.oneCell']) gh rfl (zNl rfl) (fun tJ mu => ?_)
     refine zAe (qn ?_)
     refine d_w rfl (fun _ => zA2 rfl rfl) rfl ?_
     refine zBh ?_
     refine zAd (g0 _ _ (Md.intro (by repeat (first | exact zAz | exact zA5 | refine zA4 rfl ?_ | refine zAw rfl ?_ _ | refine zAt rfl ?_)) ?_))
     have jq := mu.tail.tail.tail.tail
     replace jq := (show St _ _ (_ :: _ :: _ :: F) from jq)
     exact ⟨_, .inl ⟨hee, rfl, jq⟩⟩
    replace gh := (show St _ _ (M ++ (_ :: _ :: _ :: _ :: _ :: _ :: _ :: _ :: F)) from gh)
    refine zAe (qn ⟨gh.drop.tail.tail.tail.tail.tail, ?_⟩)
    refine d_w rfl (fun _ => zAi (v := .tuple _) rfl rfl) rfl ?_
    refine d_w rfl (fun _ => zAh (v := .pointer _) rfl rfl rfl) rfl ?_
    refine d_w rfl (fun _ => zAh (v := .int _ _) rfl rfl rfl) rfl ?_
    have jr := ((((((((gh.perm ((List.Perm.append_left M (zAa [_,_,_,_,_,_,_] [_] _)).trans (zAa M [_] _))).perm ((List.Perm.append_left [_] ((List.Perm.append_left M (zAa [_,_,_,_,_,_] [_] _)).trans (zAa M [_] _))).trans (zAa [_] [_] _))).perm ((List.Perm.append_left [_,_] ((List.Perm.append_left M (zAa [_,_,_,_,_] [_] _)).trans (zAa M [_] _))).trans (zAa [_,_] [_] _))).perm ((List.Perm.append_left [_,_,_] ((List.Perm.append_left M (zAa [_,_,_,_] [_] _)).trans (zAa M [_] _))).trans (zAa [_,_,_] [_] _))).perm ((List.Perm.append_left [_,_,_,_] ((List.Perm.append_left M (zAa [_,_,_] [_] _)).trans (zAa M [_] _))).trans (zAa [_,_,_,_] [_] _))).perm ((List.Perm.append_left [_,_,_,_,_] ((List.Perm.append_left M (zAa [_,_] [_] _)).trans (zAa M [_] _))).trans (zAa [_,_,_,_,_] [_] _))).perm ((List.Perm.append_left [_,_,_,_,_,_] ((List.Perm.append_left M (zAa [_] [_] _)).trans (zAa M [_] _))).trans (zAa [_,_,_,_,_,_] [_] _))).perm ((List.Perm.append_left [_,_,_,_,_,_,_] (zAa M [_] _)).trans (zAa [_,_,_,_,_,_,_] [_] _)))
    replace jr := (show St _ _ (_ :: _ :: _ :: _ :: _ :: _ :: _ :: _ :: M ++ (F)) from jr)
    refine zBm rfl ?_
    refine zAs (i := 3) (v := .pointer _) (vs := [_]) zAb sizeOf69 rfl rfl rfl rfl rfl (by simp [Value.oneCell']) jr rfl (zNl rfl) (fun tK mv => ?_)
    refine zAe (qn ?_)
    refine d_w rfl (fun _ => zA2 rfl rfl) rfl ?_
    refine zBh ?_
    refine zAd (g0 _ _ (Md.intro (by repeat (first | exact zAz | exact zA5 | refine zA4 rfl ?_ | refine zAw rfl ?_ _ | refine zAt rfl ?_)) ?_))
    have js := (((mv.perm (zAa [_] [_] _)).tail.perm (zAa [_] [_] _)).tail.perm (zAa [_,_] [_] _)).tail
    replace js := (show St _ _ (_ :: _ :: _ :: _ :: _ :: M ++ (F)) from js)
    exact ⟨_, .inr ⟨hee, cb, mm, M, rfl, hM, js⟩⟩
   refine zA0 (cs := [_]) zAb zeroValue69 rfl gl (fun tL tM jt => ?_)
   refine zAe (qn ⟨jt.tail, ?_⟩)
   refine zBh ⟨zDm rfl ?_, zDm rfl ?_⟩
   ·
    refine zA3 (ps := [(0, _)]) (pv := [(0, .int _ _)]) (cs := [_]) zAb rfl rfl (fun w => zCz _ w) jt (fun tN tO ju => ?_)
    refine zAe (qn ⟨ju.tail.tail, ?_⟩)
    refine zBh ⟨zDm rfl ?_, zDm rfl ?_⟩
    ·
     refine zAr zAb call39 rfl rfl rfl rfl (c39 _ (by omega) _ _ [_] (by simp) (zBd (i := 0) (rows := [[_]]) rfl (by simp) rfl) ju) ?_
     rintro _ tP ⟨rfl, kB⟩
     refine zAe (qn ⟨kB.tail.tail, ?_⟩)
     refine zBl rfl ?_
     refine zA3 (ps := [(0, _)]) (pv := [(0, .int _ _)]) (cs := [_]) zAb rfl rfl (fun w => zCz _ w) kB (fun tQ tR kC => ?_)
     refine zAe (qn ⟨kC.tail.tail.tail, ?_⟩)
     refine zBl rfl ?_
     refine zAr zAb call33 rfl rfl rfl rfl (c33 c _ hm.cons.cons.cons.cons.cons.cons _ _ [_] (by simp) (zBd (i := 0) (rows := [[_]]) rfl (by simp) rfl) kC) ?_
     rintro _ tS ⟨rfl, kD⟩
     refine zAe (qn ⟨kD.tail.tail.tail, ?_⟩)
     refine zBl rfl ?_
     refine zA3 (ps := [(0, _),(1, _)]) (pv := [(0, .agg #[.bool _, .int _ _]),(1, .agg #[.bool _, .int _ _])]) (cs := [_,_,_,_]) zAb rfl rfl (fun w => zCk _ _ _ _ w) kD (fun tT tU kE => ?_)
     refine zAe (qn ⟨kE.tail.tail.tail.tail, ?_⟩)
     refine zBl rfl ?_
     refine zAr zAb call32 rfl rfl rfl rfl (c32 c _ hm.cons.cons.cons.cons.cons.cons.cons _ _ (outL c hold until_) (by simp [spoilsL, putL, outL]) (fun x hx _ => by simp only [outL, List.mem_cons, List.not_mem_nil, or_false] at hx; rcases hx with rfl | rfl <;> simp [noneA, hoursA]) (zBd (i := 0) (rows := (arows (outL c hold until_))) rfl (fun row h => by obtain ⟨x, _, rfl⟩ := List.mem_map.1 h; rfl) rfl) kE) ?_
     rintro _ tV (⟨hee, rfl, gi⟩ | ⟨hee, cb, mm, M, rfl, hM, gi⟩)
     ·
      refine zAe (qn ⟨gi.tail.tail.tail.tail, ?_⟩)
      refine d_w rfl (fun _ => zAi (v := .tuple _) rfl rfl) rfl ?_
      refine d_w rfl (fun _ => zAh (v := .pointer _) rfl rfl rfl) rfl ?_
      refine d_w rfl (fun _ => zAh (v := .int _ _) rfl rfl rfl) rfl ?_
      replace gi := (show St _ _ (_ :: _ :: _ :: _ :: _ :: _ :: _ :: F) from gi)
      refine zBm rfl ?_
      refine zAs (i := 3) (v := .pointer _) (vs := [_]) zAb sizeOf69 rfl rfl rfl rfl rfl (by simp [Value.oneCell']) gi rfl (zNl rfl) (fun tW mw => ?_)
      refine zAe (qn ?_)
      refine d_w rfl (fun _ => zA2 rfl rfl) rfl ?_
      refine zBh ?_
      refine zAd (g0 _ _ (Md.intro (by repeat (first | exact zAz | exact zA5 | refine zA4 rfl ?_ | refine zAw rfl ?_ _ | refine zAt rfl ?_)) ?_))
      have jv := mw.tail.tail.tail.tail
      replace jv := (show St _ _ (_ :: _ :: _ :: F) from jv)
      exact ⟨_, .inl ⟨hee, rfl, jv⟩⟩
     replace gi := (show St _ _ (M ++ (_ :: _ :: _ :: _ :: _ :: _ :: _ :: _ :: F)) from gi)
     refine zAe (qn ⟨gi.drop.tail.tail.tail.tail.tail, ?_⟩)
     refine d_w rfl (fun _ => zAi (v := .tuple _) rfl rfl) rfl ?_
     refine d_w rfl (fun _ => zAh (v := .pointer _) rfl rfl rfl) rfl ?_
     refine d_w rfl (fun _ => zAh (v := .int _ _) rfl rfl rfl) rfl ?_
     have jw := ((((((((gi.perm ((List.Perm.append_left M (zAa [_,_,_,_,_,_,_] [_] _)).trans (zAa M [_] _))).perm ((List.Perm.append_left [_] ((List.Perm.append_left M (zAa [_,_,_,_,_,_] [_] _)).trans (zAa M [_] _))).trans (zAa [_] [_] _))).perm ((List.Perm.append_left [_,_] ((List.Perm.append_left M (zAa [_,_,_,_,_] [_] _)).trans (zAa M [_] _))).trans (zAa [_,_] [_] _))).perm ((List.Perm.append_left [_,_,_] ((List.Perm.append_left M (zAa [_,_,_,_] [_] _)).trans (zAa M [_] _))).trans (zAa [_,_,_] [_] _))).perm ((List.Perm.append_left [_,_,_,_] ((List.Perm.append_left M (zAa [_,_,_] [_] _)).trans (zAa M [_] _))).trans (zAa [_,_,_,_] [_] _))).perm ((List.Perm.append_left [_,_,_,_,_] ((List.Perm.append_left M (zAa [_,_] [_] _)).trans (zAa M [_] _))).trans (zAa [_,_,_,_,_] [_] _))).perm ((List.Perm.append_left [_,_,_,_,_,_] ((List.Perm.append_left M (zAa [_] [_] _)).trans (zAa M [_] _))).trans (zAa [_,_,_,_,_,_] [_] _))).perm ((List.Perm.append_left [_,_,_,_,_,_,_] (zAa M [_] _)).trans (zAa [_,_,_,_,_,_,_] [_] _)))
     replace jw := (show St _ _ (_ :: _ :: _ :: _ :: _ :: _ :: _ :: _ :: M ++ (F)) from jw)
     refine zBm rfl ?_
     refine zAs (i := 4) (v := .pointer _) (vs := [_]) zAb sizeOf69 rfl rfl rfl rfl rfl (by simp [Value.oneCell']) jw rfl (zNl rfl) (fun tX mx => ?_)
     refine zAe (qn ?_)
     refine d_w rfl (fun _ => zA2 rfl rfl) rfl ?_
     refine zBh ?_
     refine zAd (g0 _ _ (Md.intro (by repeat (first | exact zAz | exact zA5 | refine zA4 rfl ?_ | refine zAw rfl ?_ _ | refine zAt rfl ?_)) ?_))
     have jx := (((mx.perm (zAa [_] [_] _)).tail.perm (zAa [_] [_] _)).tail.perm (zAa [_] [_] _)).tail
     replace jx := (show St _ _ (_ :: _ :: _ :: _ :: _ :: M ++ (F)) from jx)
     exact ⟨_, .inr ⟨hee, cb, mm, M, rfl, hM, jx⟩⟩
    refine zA3 (ps := [(0, _)]) (pv := [(0, .int _ _)]) (cs := [_]) zAb rfl rfl (fun w => zCz _ w) ju (fun tY tZ kF => ?_)
    refine zAe (qn ⟨kF.tail.tail.tail, ?_⟩)
    refine zBl rfl ?_
    refine zAr zAb call39 rfl rfl rfl rfl (c39 _ (by omega) _ _ [_] (by simp) (zBd (i := 1) (rows := [[_]]) rfl (by simp) rfl) kF) ?_
    rintro _ wa ⟨rfl, kG⟩
    refine zAe (qn ⟨kG.tail.tail.tail, ?_⟩)
    refine zBl rfl ?_
    refine zAr zAb call33 rfl rfl rfl rfl (c33 c _ hm.cons.cons.cons.cons.cons.cons _ _ [_] (by simp) (zBd (i := 0) (rows := [[_]]) rfl (by simp) rfl) kG) ?_
    rintro _ wb ⟨rfl, kH⟩
    refine zAe (qn ⟨kH.tail.tail.tail, ?_⟩)
    refine zBl rfl ?_
    refine zA3 (ps := [(0, _),(1, _)]) (pv := [(0, .agg #[.bool _, .int _ _]),(1, .agg #[.bool _, .int _ _])]) (cs := [_,_,_,_]) zAb rfl rfl (fun w => zCk _ _ _ _ w) kH (fun wc wd kI => ?_)
    refine zAe (qn ⟨kI.tail.tail.tail.tail, ?_⟩)
    refine zBl rfl ?_
    refine zAr zAb call32 rfl rfl rfl rfl (c32 c _ hm.cons.cons.cons.cons.cons.cons.cons _ _ (outL c hold until_) (by simp [spoilsL, putL, outL]) (fun x hx _ => by simp only [outL, List.mem_cons, List.not_mem_nil, or_false] at hx; rcases hx with rfl | rfl <;> simp [noneA, hoursA]) (zBd (i := 0) (rows := (arows (outL c hold until_))) rfl (fun row h => by obtain ⟨x, _, rfl⟩ := List.mem_map.1 h; rfl) rfl) kI) ?_
    rintro _ we (⟨hee, rfl, gj⟩ | ⟨hee, cb, mm, M, rfl, hM, gj⟩)
    ·
     refine zAe (qn ⟨gj.tail.tail.tail.tail, ?_⟩)
     refine d_w rfl (fun _ => zAi (v := .tuple _) rfl rfl) rfl ?_
     refine d_w rfl (fun _ => zAh (v := .pointer _) rfl rfl rfl) rfl ?_
     refine d_w rfl (fun _ => zAh (v := .int _ _) rfl rfl rfl) rfl ?_
     replace gj := (show St _ _ (_ :: _ :: _ :: _ :: _ :: _ :: _ :: F) from gj)
     refine zBm rfl ?_
     refine zAs (i := 3) (v := .pointer _) (vs := [_]) zAb sizeOf69 rfl rfl rfl rfl rfl (by simp [Value.oneCell']) gj rfl (zNl rfl) (fun wg my => ?_)
     refine zAe (qn ?_)
     refine d_w rfl (fun _ => zA2 rfl rfl) rfl ?_
     refine zBh ?_
     refine zAd (g0 _ _ (Md.intro (by repeat (first | exact zAz | exact zA5 | refine zA4 rfl ?_ | refine zAw rfl ?_ _ | refine zAt rfl ?_)) ?_))
     have jy := my.tail.tail.tail.tail
     replace jy := (show St _ _ (_ :: _ :: _ :: F) from jy)
     exact ⟨_, .inl ⟨hee, rfl, jy⟩⟩
    replace gj := (show St _ _ (M ++ (_ :: _ :: _ :: _ :: _ :: _ :: _ :: _ :: F)) from gj)
    refine zAe (qn ⟨gj.drop.tail.tail.tail.tail.tail, ?_⟩)
    refine d_w rfl (fun _ => zAi (v := .tuple _) rfl rfl) rfl ?_
    refine d_w rfl (fun _ => zAh (v := .pointer _) rfl rfl rfl) rfl ?_
    refine d_w rfl (fun _ => zAh (v := .int _ _) rfl rfl rfl) rfl ?_
    have jz := ((((((((gj.perm ((List.Perm.append_left M (zAa [_,_,_,_,_,_,_] [_] _)).trans (zAa M [_] _))).perm ((List.Perm.append_left [_] ((List.Perm.append_left M (zAa [_,_,_,_,_,_] [_] _)).trans (zAa M [_] _))).trans (zAa [_] [_] _))).perm ((List.Perm.append_left [_,_] ((List.Perm.append_left M (zAa [_,_,_,_,_] [_] _)).trans (zAa M [_] _))).trans (zAa [_,_] [_] _))).perm ((List.Perm.append_left [_,_,_] ((List.Perm.append_left M (zAa [_,_,_,_] [_] _)).trans (zAa M [_] _))).trans (zAa [_,_,_] [_] _))).perm ((List.Perm.append_left [_,_,_,_] ((List.Perm.append_left M (zAa [_,_,_] [_] _)).trans (zAa M [_] _))).trans (zAa [_,_,_,_] [_] _))).perm ((List.Perm.append_left [_,_,_,_,_] ((List.Perm.append_left M (zAa [_,_] [_] _)).trans (zAa M [_] _))).trans (zAa [_,_,_,_,_] [_] _))).perm ((List.Perm.append_left [_,_,_,_,_,_] ((List.Perm.append_left M (zAa [_] [_] _)).trans (zAa M [_] _))).trans (zAa [_,_,_,_,_,_] [_] _))).perm ((List.Perm.append_left [_,_,_,_,_,_,_] (zAa M [_] _)).trans (zAa [_,_,_,_,_,_,_] [_] _)))
    replace jz := (show St _ _ (_ :: _ :: _ :: _ :: _ :: _ :: _ :: _ :: M ++ (F)) from jz)
    refine zBm rfl ?_
    refine zAs (i := 4) (v := .pointer _) (vs := [_]) zAb sizeOf69 rfl rfl rfl rfl rfl (by simp [Value.oneCell']) jz rfl (zNl rfl) (fun wh mz => ?_)
    refine zAe (qn ?_)
    refine d_w rfl (fun _ => zA2 rfl rfl) rfl ?_
    refine zBh ?_
    refine zAd (g0 _ _ (Md.intro (by repeat (first | exact zAz | exact zA5 | refine zA4 rfl ?_ | refine zAw rfl ?_ _ | refine zAt rfl ?_)) ?_))
    have jA := (((mz.perm (zAa [_] [_] _)).tail.perm (zAa [_] [_] _)).tail.perm (zAa [_] [_] _)).tail
    replace jA := (show St _ _ (_ :: _ :: _ :: _ :: _ :: M ++ (F)) from jA)
    exact ⟨_, .inr ⟨hee, cb, mm, M, rfl, hM, jA⟩⟩
   refine zA3 (ps := [(0, _)]) (pv := [(0, .int _ _)]) (cs := [_]) zAb rfl rfl (fun w => zCz _ w) jt (fun wi wj kJ => ?_)
   refine zAe (qn ⟨kJ.tail.tail, ?_⟩)
   refine zBl rfl ?_
   refine zA3 (ps := [(0, _)]) (pv := [(0, .int _ _)]) (cs := [_]) zAb rfl rfl (fun w => zCz _ w) kJ (fun wk wl kK => ?_)
   refine zAe (qn ⟨kK.tail.tail.tail, ?_⟩)
   refine zBl rfl ?_
   refine zAr zAb call39 rfl rfl rfl rfl (c39 _ (by omega) _ _ [_] (by simp) (zBd (i := 0) (rows := [[_]]) rfl (by simp) rfl) kK) ?_
   rintro _ wn ⟨rfl, kL⟩
   refine zAe (qn ⟨kL.tail.tail.tail, ?_⟩)
   refine zBl rfl ?_
   refine zAr zAb call33 rfl rfl rfl rfl (c33 c _ hm.cons.cons.cons.cons.cons.cons _ _ [_] (by simp) (zBd (i := 1) (rows := [[_]]) rfl (by simp) rfl) kL) ?_
   rintro _ wo ⟨rfl, kM⟩
   refine zAe (qn ⟨kM.tail.tail.tail, ?_⟩)
   refine zBl rfl ?_
   refine zA3 (ps := [(0, _),(1, _)]) (pv := [(0, .agg #[.bool _, .int _ _]),(1, .agg #[.bool _, .int _ _])]) (cs := [_,_,_,_]) zAb rfl rfl (fun w => zCk _ _ _ _ w) kM (fun wp wq kN => ?_)
   refine zAe (qn ⟨kN.tail.tail.tail.tail, ?_⟩)
   refine zBl rfl ?_
   refine zAr zAb call32 rfl rfl rfl rfl (c32 c _ hm.cons.cons.cons.cons.cons.cons.cons _ _ (outL c hold until_) (by simp [spoilsL, putL, outL]) (fun x hx _ => by simp only [outL, List.mem_cons, List.not_mem_nil, or_false] at hx; rcases hx with rfl | rfl <;> simp [noneA, hoursA]) (zBd (i := 0) (rows := (arows (outL c hold until_))) rfl (fun row h => by obtain ⟨x, _, rfl⟩ := List.mem_map.1 h; rfl) rfl) kN) ?_
   rintro _ wr (⟨hee, rfl, gk⟩ | ⟨hee, cb, mm, M, rfl, hM, gk⟩)
   ·
    refine zAe (qn ⟨gk.tail.tail.tail.tail, ?_⟩)
    refine d_w rfl (fun _ => zAi (v := .tuple _) rfl rfl) rfl ?_
    refine d_w rfl (fun _ => zAh (v := .pointer _) rfl rfl rfl) rfl ?_
    refine d_w rfl (fun _ => zAh (v := .int _ _) rfl rfl rfl) rfl ?_
    replace gk := (show St _ _ (_ :: _ :: _ :: _ :: _ :: _ :: _ :: F) from gk)
    refine zBm rfl ?_
    refine zAs (i := 3) (v := .pointer _) (vs := [_]) zAb sizeOf69 rfl rfl rfl rfl rfl (by simp [Value.oneCell']) gk rfl (zNl rfl) (fun wt mA => ?_)
    refine zAe (qn ?_)
    refine d_w rfl (fun _ => zA2 rfl rfl) rfl ?_
    refine zBh ?_
    refine zAd (g0 _ _ (Md.intro (by repeat (first | exact zAz | exact zA5 | refine zA4 rfl ?_ | refine zAw rfl ?_ _ | refine zAt rfl ?_)) ?_))
    have jB := mA.tail.tail.tail.tail
    replace jB := (show St _ _ (_ :: _ :: _ :: F) from jB)
    exact ⟨_, .inl ⟨hee, rfl, jB⟩⟩
   replace gk := (show St _ _ (M ++ (_ :: _ :: _ :: _ :: _ :: _ :: _ :: _ :: F)) from gk)
   refine zAe (qn ⟨gk.drop.tail.tail.tail.tail.tail, ?_⟩)
   refine d_w rfl (fun _ => zAi (v := .tuple _) rfl rfl) rfl ?_
   refine d_w rfl (fun _ => zAh (v := .pointer _) rfl rfl rfl) rfl ?_
   refine d_w rfl (fun _ => zAh (v := .int _ _) rfl rfl rfl) rfl ?_
   have jC := ((((((((gk.perm ((List.Perm.append_left M (zAa [_,_,_,_,_,_,_] [_] _)).trans (zAa M [_] _))).perm ((List.Perm.append_left [_] ((List.Perm.append_left M (zAa [_,_,_,_,_,_] [_] _)).trans (zAa M [_] _))).trans (zAa [_] [_] _))).perm ((List.Perm.append_left [_,_] ((List.Perm.append_left M (zAa [_,_,_,_,_] [_] _)).trans (zAa M [_] _))).trans (zAa [_,_] [_] _))).perm ((List.Perm.append_left [_,_,_] ((List.Perm.append_left M (zAa [_,_,_,_] [_] _)).trans (zAa M [_] _))).trans (zAa [_,_,_] [_] _))).perm ((List.Perm.append_left [_,_,_,_] ((List.Perm.append_left M (zAa [_,_,_] [_] _)).trans (zAa M [_] _))).trans (zAa [_,_,_,_] [_] _))).perm ((List.Perm.append_left [_,_,_,_,_] ((List.Perm.append_left M (zAa [_,_] [_] _)).trans (zAa M [_] _))).trans (zAa [_,_,_,_,_] [_] _))).perm ((List.Perm.append_left [_,_,_,_,_,_] ((List.Perm.append_left M (zAa [_] [_] _)).trans (zAa M [_] _))).trans (zAa [_,_,_,_,_,_] [_] _))).perm ((List.Perm.append_left [_,_,_,_,_,_,_] (zAa M [_] _)).trans (zAa [_,_,_,_,_,_,_] [_] _)))
   replace jC := (show St _ _ (_ :: _ :: _ :: _ :: _ :: _ :: _ :: _ :: M ++ (F)) from jC)
   refine zBm rfl ?_
   refine zAs (i := 4) (v := .pointer _) (vs := [_]) zAb sizeOf69 rfl rfl rfl rfl rfl (by simp [Value.oneCell']) jC rfl (zNl rfl) (fun wu mB => ?_)
   refine zAe (qn ?_)
   refine d_w rfl (fun _ => zA2 rfl rfl) rfl ?_
   refine zBh ?_
   refine zAd (g0 _ _ (Md.intro (by repeat (first | exact zAz | exact zA5 | refine zA4 rfl ?_ | refine zAw rfl ?_ _ | refine zAt rfl ?_)) ?_))
   have jD := (((mB.perm (zAa [_] [_] _)).tail.perm (zAa [_] [_] _)).tail.perm (zAa [_] [_] _)).tail
   replace jD := (show St _ _ (_ :: _ :: _ :: _ :: _ :: M ++ (F)) from jD)
   exact ⟨_, .inr ⟨hee, cb, mm, M, rfl, hM, jD⟩⟩
  intro vs μ wv hM
  clear hs
  obtain ⟨bc, hM⟩ := hM
  rcases hM with hM | hM
  ·
   obtain ⟨hee, rfl, hs⟩ := hM
   refine zAd (jH _ _ (zAg (fun ww wx => (zAg (fun wy mC => (zAc (zBe rfl rfl (w_p (zCv rfl rfl rfl rfl) rfl (zAe (zAd (mC _ _ (zA1 rfl rfl (fun gu => ?_) (fun gu => ?_)))))))))))))
   ·
    try simp only [zS] at gu
    refine zAg (fun wz mD => (zAc (zBe rfl rfl (zBj rfl rfl (zBs rfl rfl (zAe (zAd (mD _ _ (zA7 (zAm (zBa (l := [.tmp 6, .tmp 7]) (vs := [_,_]) rfl ⟨⟨rfl, show _ = (.slice _ _ _ : Value) from rfl⟩, ⟨rfl, (rfl : _ = Value.int _ _)⟩, trivial⟩ ?_)))))))))))
    exact ⟨[], none, 0, by rw [outP_e hee]; rfl, by rw [outP_e hee]; exact Sl.nil _ _, hs.tail.tail.tail⟩
   exfalso
   try simp only [zS] at gu
   exact hee gu
  obtain ⟨hee, cb, mm, M, rfl, hM, hs⟩ := hM
  have hew := zE8 (fun x hx _ => by simp only [outL, List.mem_cons, List.not_mem_nil, or_false] at hx; rcases hx with rfl | rfl <;> simp [noneA, hoursA]) hee
  have hok := check_ok hew.1
  have hlo := hok.ll
  have hle2 := hok.le
  have hlh2 := hok.lh
  refine zAd (jH _ _ (zAg (fun wA mE => (zAg (fun wB mF => (zAc (zBe rfl rfl (w_p (zCv rfl rfl rfl rfl) rfl (zAe (zAd (mF _ _ (zB7 rfl rfl ?_))))))))))))
  refine zAx (zAd (mE _ _ (zAg (fun wC mG => ?_))))
  obtain ⟨n, rfl⟩ : ∃ n : Nat, hold = (n : Int) := ⟨hold.toNat, by have := zFi (any_2 hew.2.1).1 hold (by simp); omega⟩
  have hnh : n < c.holds.length := by have := zFi (any_2 hew.2.1).1 (n : Int) (by simp); omega
  refine zAc (w_p (zAk isAgg69 hs rfl rfl (zAl (i := 1) (vs := [_]) rfl rfl)) rfl (w_p (zAk isAgg3 hs rfl rfl (zAl (i := 3) (vs := [_]) rfl rfl)) rfl (zAr zAb call63 rfl rfl rfl rfl (c63 c p 0 cb mm ⟨hm.app.cons.cons.cons.cons.cons, zAl (i := 0) rfl rfl, hok.t, by omega⟩ _ hs) ?_)))
  rintro _ wD ⟨rfl, mH⟩
  refine zA0 (cs := [_]) zAb zeroValue3 rfl mH (fun mI wE mJ => ?_)
  refine zAs (i := 0) (v := .int _ _) (vs := [_]) zAb sizeOf3 rfl rfl rfl rfl rfl (by simp [Value.oneCell']) mJ rfl (zNl rfl) (fun wF kO => ?_)
  refine zAe (zAd (mG _ _ (zAg (fun wG mK => (zAc (w_p (zAf (o := 3) (i := 3) underlying42 rfl sizeOf39 rfl rfl rfl) rfl (w_p (zAk isAgg39 kO rfl rfl (zAl (i := 5) (vs := [_]) rfl rfl)) rfl ?_)))))))
  refine w_p (zBo underlying39 rfl rfl) rfl (w_p (zCa (fv := []) (cv := [_,_,_,_,_]) rfl rfl rfl rfl) rfl ?_)
  have jE := (((((((kO.perm (zAa [_,_,_,_,_] [_] _)).perm (zAa [_,_,_,_,_] [_] _)).perm (zAa [_,_,_,_,_] [_] _)).perm (zAa [_,_,_,_,_] [_] _)).perm (zAa [_,_,_,_,_] [_] _)).perm (zAa [_,_,_,_,_] [_] _)).perm (zAa [_,_,_,_,_,_] M _))
  replace jE := (show St _ _ (M ++ (_ :: _ :: _ :: _ :: _ :: _ :: F)) from jE)
  refine zAr zAb call64 rfl rfl rfl rfl (c64 (M := M) (F := _ :: (cb, blk 132 [.slice p.ae c.heat.length p.ce, .int .i64 c.gas, .slice p.ah c.holds.length p.ch, .slice p.al c.lots.length p.cl, .slice p.an c.seen.length p.cn, .int .i64 ((0 : Nat) : Int), .map (some mm)]) :: _ :: _ :: _ :: _ :: F) c.lots.length (by omega) (.func (.func 65) #[] #[.pointer (some ⟨mI,0, none⟩), .pointer (some ⟨bc, 0, none⟩), .pointer (some ⟨b6,0, none⟩), .pointer (some ⟨b3,0, none⟩), .pointer (some ⟨b9,0, none⟩)]) (outS c n until_) (fun M => Memo c mm M) (fun set M X w hset hM hs => zDw call65 (c65 c p cb mm ⟨hm.cons.cons.cons.cons.cons.cons, zAl (i := 1) rfl rfl, hok.t, by omega⟩ hok n hnh until_ _ _ _ _ _ (zAl (i := 0) (vs := [_]) rfl rfl) (zAl (i := 2) (vs := [_]) rfl rfl) (zAl (i := 4) (vs := [_]) rfl rfl) (zAl (i := 5) (vs := c.cells p) rfl rfl) (zAl (i := 3) (vs := [_]) rfl rfl) set (by have := shl_16 (n := c.lots.length) (by omega); omega) hM hs)) hM jE) ?_
  rintro _ wH ⟨B, M1, aL, cL, rfl, hslB, wI, jF⟩
  replace jF := (show St _ _ (B ++ (M1 ++ (_ :: _ :: _ :: _ :: _ :: _ :: F))) from jF)
  refine w_p (zAo (v := .slice _ _ _) rfl rfl) rfl (zBj rfl rfl (zAe (zAd (mK _ _ (zA7 (zBa (l := [.tmp 6, .tmp 7]) (vs := [_,_]) rfl ⟨⟨rfl, show _ = (.slice _ _ _ : Value) from rfl⟩, ⟨rfl, (rfl : _ = Value.int _ _)⟩, trivial⟩ ?_))))))
  have jG := (((((((jF.perm (zAa B M1 _)).drop.perm (zAa B [_] _)).tail.perm (zAa B [_] _)).tail.perm (zAa B [_] _)).tail.perm (zAa B [_] _)).tail.perm (zAa B [_] _)).tail.perm (zAa B [_] _)).tail
  replace jG := (show St _ _ (B ++ (F)) from jG)
  exact ⟨B, aL, cL, by rw [outP_y hee]; rfl, by rw [outP_y hee]; exact hslB, jG⟩

theorem c69 {w0 w : World} {F : List (Nat × Obj)} (c : Cargo) (p : AtT) (hm : TIn w0 F c p) (hco : c.Ok) (but : Nat) (hbt : but < 1000) (b1 : Nat) (h1 : Ats w0 F b1 0 (c.cells p)) (hs : St w0 w F) :
  Con Tryz.prog 69 [.int .i64 (but : Int), .pointer (some ⟨b1,0, none⟩)] w fun v w' => v = .bool (someB c but) ∧ St w0 w' F := by
  refine zAu (n := 8) func69 rfl rfl (zNl rfl) ?_
  refine zAg (fun K2 g5 => (zAc (zBj rfl rfl (zAe (zAd (g5 _ _ (zAg (fun K4 g6 => (zAc (w_p (zA9 (vs := [_,_,_,_,_]) isAgg42 sizeOf42 hs rfl rfl h1) rfl ?_))))))))))
  refine zBe rfl rfl (zAr zAb call61 rfl rfl rfl rfl (c61 c p but hs) ?_)
  rintro _ w6 ⟨cb, mm, rfl, g0⟩
  replace g0 := (show St _ _ (_ :: _ :: F) from g0)
  have g3 := (g0.perm (zAa [_] [_] _))
  replace g3 := (show St _ _ (_ :: _ :: F) from g3)
  have hkc : CK w0 ((cb, blk 132 [.slice p.ae c.heat.length p.ce, .int .i64 c.gas, .slice p.ah c.holds.length p.ch, .slice p.al c.lots.length p.cl, .slice p.an c.seen.length p.cn, .int .i64 (but : Int), .map (some mm)]) :: F) c p but cb mm := ck_new hm hco hbt
  refine zAr zAb call70 rfl rfl rfl rfl (c70 (X := []) (M := [(mm, .map #[] 0)]) c p but cb mm hkc hco (zEg c mm) g3) ?_
  rintro _ g7 ⟨rfl, M2, g8, g4⟩
  replace g4 := (show St _ _ (M2 ++ (_ :: F)) from g4)
  refine w_p (zAo (v := .bool _) rfl rfl) rfl (zAe (zAd (g6 _ _ (zA7 (zBa (l := [.tmp 3]) (vs := [_]) rfl ⟨⟨rfl, (rfl : _ = Value.bool _)⟩, trivial⟩ ?_)))))
  exact ⟨rfl, g4.drop.tail⟩

theorem c31 {w0 w : World} {F : List (Nat × Obj)} (c : Cargo) (p : AtT) (hm : TIn w0 F c p)  (hs : St w0 w F) :
  Con Tryz.prog 31 [.agg (c.cells p).toArray] w fun v w' => ∃ B a c', v = .tuple #[.slice a (wrongP c).1.length c', .int .i64 (wrongP c).2] ∧ Sl w0 B a 1 ((wrongP c).1.map fun x => [Value.int .i64 x]) ∧ St w0 w' (B ++ F) := by
  refine zAu (n := 21) func31 rfl rfl (zNl rfl) ?_
  refine zAg (fun K2 g7 => (zAc (zCj (v := .agg #[.slice _ _ _, .int _ _, .slice _ _ _, .slice _ _ _, .slice _ _ _]) (cs := [_,_,_,_,_]) zAb rfl rfl rfl hs (fun b3 w4 g6 => ?_))))
  refine zBj rfl rfl (zBj rfl rfl (zAe (zAd (g7 _ _ (zAg (fun K7 g8 => (zAg (fun K9 g9 => (zAc (w_p (zA9 (vs := [_,_,_,_,_]) isAgg42 sizeOf42 g6 rfl rfl (zAl (i := 0) (vs := [_,_,_,_,_]) rfl rfl)) rfl ?_))))))))))
  refine zAr zAb call68 rfl rfl rfl rfl (c68 c _ hm.cons g6) ?_
  rintro _ gd ⟨rfl, g0⟩
  refine w_p (zAi (v := .tuple _) rfl rfl) rfl (w_p (zAh (v := .int _ _) rfl rfl rfl) rfl (w_p (zAh (v := .int _ _) rfl rfl rfl) rfl (w_p (zAh (v := .int _ _) rfl rfl rfl) rfl (zBs rfl rfl (zBs rfl rfl (zBs rfl rfl ?_))))))
  refine zAe (zAd (g9 _ _ (zAg (fun ge ga => (zAc (zBe rfl rfl (w_p (zCv rfl rfl rfl rfl) rfl (zAe (zAd (ga _ _ (zA1 rfl rfl (fun g3 => ?_) (fun g3 => ?_))))))))))))
  ·
   try simp only [zS] at g3
   refine zAg (fun gf gb => (zAc (zBe rfl rfl (zBj rfl rfl (zBs rfl rfl (zAe (zAd (gb _ _ (zA7 (zAm (zBa (l := [.tmp 2, .tmp 3]) (vs := [_,_]) rfl ⟨⟨rfl, show _ = (.slice _ _ _ : Value) from rfl⟩, ⟨rfl, (rfl : _ = Value.int _ _)⟩, trivial⟩ ?_)))))))))))
   exact ⟨[], none, 0, by rw [wrongP_e (by assumption)]; rfl, by rw [wrongP_e (by assumption)]; exact Sl.nil _ _, g0.tail⟩
  try simp only [zS] at g3
  refine zAx (zAd (g8 _ _ (zAg (fun gg gc => ?_))))
  have hok := check_ok (by assumption)
  have hln := hok.ln
  refine zAc (w_p (zAf (o := 4) (i := 4) underlying42 rfl sizeOf40 rfl rfl rfl) rfl (w_p (zAk isAgg40 g0 rfl rfl (zAl (i := 0) (vs := [_]) rfl rfl)) rfl (w_p (zBo underlying40 rfl rfl) rfl (w_p (zCa (fv := []) (cv := [_]) rfl rfl rfl rfl) rfl ?_))))
  refine zAr zAb call64 rfl rfl rfl rfl (c64 (M := []) (F := _ :: F) c.seen.length (by omega) (.func (.func 69) #[] #[.pointer (some ⟨b3,0, none⟩)]) (someB c) (fun M => M = []) (fun s M X w gh hM hs => by subst hM; exact (zDw call69 (c69 c p hm.cons.app.app hok s (by have := shl_16 (n := c.seen.length) (by omega); omega) _ (Ats.app (Ats.app (zAl (i := 0) (vs := c.cells p) rfl rfl))) hs)).mono fun _ _ h => ⟨h.1, [], rfl, h.2⟩) rfl g0) ?_
  rintro _ gi ⟨B, M1, aL, cL, rfl, hslB, gj, g4⟩
  replace g4 := (show St _ _ (B ++ (M1 ++ (_ :: F))) from g4)
  refine w_p (zAo (v := .slice _ _ _) rfl rfl) rfl (zBj rfl rfl (zAe (zAd (gc _ _ (zA7 (zBa (l := [.tmp 2, .tmp 3]) (vs := [_,_]) rfl ⟨⟨rfl, show _ = (.slice _ _ _ : Value) from rfl⟩, ⟨rfl, (rfl : _ = Value.int _ _)⟩, trivial⟩ ?_))))))
  have g5 := ((g4.perm (zAa B M1 _)).drop.perm (zAa B [_] _)).tail
  replace g5 := (show St _ _ (B ++ (F)) from g5)
  exact ⟨B, aL, cL, by rw [wrongP_y (by assumption)]; rfl, by rw [wrongP_y (by assumption)]; exact hslB, g5⟩

end Go.Proofs.Ut
/- Plain words of the turn layer: the document's examples; the cargo of one lot that loses one of its green each hour. No conditions. -/
namespace Go.Rt.Tu
theorem ex_turns0 : turnsP (cargoX (-1)) 0 = ((2,4), 1,0) := by decide +kernel
theorem ex_turns1 : turnsP (cargoX (-1)) 1 = ((4,6), (turnsP (cargoX (-1)) 1).2.1,0) := by decide +kernel
theorem ex_turns2 : turnsP (cargoX (-1)) 2 = ((turnsP (cargoX (-1)) 2).1,2,0) := by decide +kernel
theorem ex_turnsD : turnsP (cargoX 3) 1 = ((6,6), 1,0) := by decide +kernel
theorem ex_safe : safeP (cargoX (-1)) 3 = ([1,2], 0) := by decide +kernel
theorem ex_first : firstP (cargoX (-1)) 0 = ([0], 0) := by decide +kernel
theorem ex_spoils : spoilsP (cargoX (-1)) 0 1 = (1,0) := by decide +kernel
theorem ex_put : putP (cargoX (-1)) (8,8) 1 5 = ([1], 0) := by decide +kernel
theorem ex_out : outP (cargoX (-1)) 0 4 = ([0], 0) := by decide +kernel
theorem ex_wrong : wrongP (cargoX 4) = ([0], 0) := by decide +kernel
theorem ex_none : (turnsP (cargoX 4) 0).2.2 = 8 := by decide +kernel
theorem ex_arg : (spoilsP (cargoX (-1)) 1 1).2 = 2 := by decide +kernel
def one (left : Int) : Cargo := ⟨List.replicate 8 0,0, [(1,1)], [⟨0,0, left, left⟩], []⟩
theorem one_safe : ∀ left : Nat, left < 41 → ∀ hour : Nat, hour < 9 → safeP (one left) hour = (if hour < left then [0] else [], 0) := by decide +kernel
theorem one_turns : ∀ left : Nat, left < 41 → turnsP (one left) 0 = if 8 < left then ((0,0), 2,0) else (((left : Int), (left : Int)), 1,0) := by decide +kernel
end Go.Rt.Tu
