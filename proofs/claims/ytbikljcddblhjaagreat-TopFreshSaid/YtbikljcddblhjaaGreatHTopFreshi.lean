/- Own texts of this claim, joined. No conditions. -/
import Derived.Test.YtbikljcddblhjaaGreatHTopFresha
import Derived.Test.YtbikljcddblhjaaGreatHTopFreshb
import Derived.Test.YtbikljcddblhjaaGreatHTopFreshc
import Derived.Test.YtbikljcddblhjaaGreatHTopFreshd
import Derived.Test.YtbikljcddblhjaaGreatHTopFreshe
import Derived.Test.YtbikljcddblhjaaGreatHTopFreshf
import Derived.Test.YtbikljcddblhjaaGreatHTopFreshg
import Derived.Test.YtbikljcddblhjaaGreatHTopFreshh
set_option linter.unusedVariables false
set_option linter.unusedSimpArgs false
set_option maxRecDepth 20000
namespace Go.Proofs.Cb
open Go.Proofs.Tryz
open Go.Rt Go.Rt.Ca
attribute [local irreducible] WL WC Con Yd At Ats Sl Agree DW
theorem Try_CH_fb5 (x0 : Int) (x1 : Int) (x2 : Int) (x3 : Option Addr) (l3 c3 : Nat) (x4 : Option Nat) (w : World) : (Instr.build 128 [(0, .agg #[.int .i64 x0, .int .i64 x1, .int .i64 x2, .slice x3 l3 c3]),(1, .map x4)].toArray).run Tryz.prog w = .ok (.agg #[.int .i64 x0, .int .i64 x1, .int .i64 x2, .slice x3 l3 c3, .map x4]) w := by kernel_rfl
theorem zEz {p : Port} {l : List Int} (h : ¬ (check p).2.2 = 0) : enterErr p l = (check p).2.2 := by unfold enterErr; rw [if_pos h]
theorem zEy {p : Port} {l : List Int} (h : (check p).2.2 = 0) (h2 : ¬ l.length = p.farms.length) : enterErr p l = 3 := by unfold enterErr; rw [if_neg (by simpa using h), if_pos h2]
theorem zEx {p : Port} {l : List Int} (h : (check p).2.2 = 0) (h2 : l.length = p.farms.length) (h3 : l.any (out (-1) 10) = true) : enterErr p l = 7 := by unfold enterErr; rw [if_neg (by simpa using h), if_neg (by simpa using h2), if_pos h3]
theorem zIh {p : Port} {l : List Int} (h : (check p).2.2 = 0) (h2 : l.length = p.farms.length) (h3 : l.any (out (-1) 10) = false) : enterErr p l = 0 := by unfold enterErr; rw [if_neg (by simpa using h), if_neg (by simpa using h2), if_neg (by simp [h3])]
theorem look_perm {w0 w : World} {F : List (Nat × Obj)} {x y z : Nat × Obj} (h : St w0 w (x :: y :: z :: F)) : St w0 w (y :: x :: F) := (h.perm (List.Perm.swap _ _ _)).perm (List.Perm.cons _ (List.Perm.swap _ _ _)) |>.perm (List.Perm.swap _ _ _) |>.tail |>.perm (List.Perm.swap _ _ _) |>.perm (List.Perm.swap _ _ _)
theorem c46 {w0 w : World} {F : List (Nat × Obj)} (p : Port) (a : Option Addr) (c : Nat) (hs : St w0 w F) :
  Con Tryz.prog 46 [.agg (p.cells a c).toArray] w fun v w' => ∃ m pb, v = .pointer (some ⟨pb, 0, none⟩) ∧ St w0 w' ((m, .map #[] 0) :: (pb, blk 128 [.int .i64 p.hold, .int .i64 p.clo, .int .i64 p.chi, .slice a p.farms.length c, .map (some m)]) :: F) := by
  refine zAu (n := 7) func46 rfl rfl (zNl rfl) ?_
  refine zAg (fun K2 g3 => (zAc (zCj (v := .agg #[.int _ _, .int _ _, .int _ _, .slice _ _ _]) (cs := [_,_,_,_]) zAb rfl rfl rfl hs (fun b3 w4 g0 => ?_))))
  refine zBj rfl rfl (zAe (zAd (g3 _ _ (zAg (fun K7 g4 => (zAc (w_p (zA9 (vs := [_,_,_,_]) isAgg26 sizeOf26 g0 rfl rfl (zAl (i := 0) (vs := [_,_,_,_]) rfl rfl)) rfl ?_)))))))
  refine w_makeMap zAb g0 (fun b8 w9 g5 => ?_)
  refine w_p (zBx (ps := [(0, _),(1, _)]) (pv := [(0, .agg #[.int _ _, .int _ _, .int _ _, .slice _ _ _]),(1, .map _)]) rfl rfl (fun w => Try_CH_fb5 _ _ _ _ _ _ _ w)) rfl (zCj (v := .agg #[.int _ _, .int _ _, .int _ _, .slice _ _ _, .map _]) (cs := [_,_,_,_,_]) zAb rfl rfl rfl g5 (fun g7 g8 g6 => ?_))
  refine w_p (zAo (v := .pointer _) rfl rfl) rfl (zAe (zAd (g4 _ _ (zA7 (zBa (l := [.tmp 2]) (vs := [_]) rfl ⟨⟨rfl, show _ = (.pointer _ : Value) from rfl⟩, trivial⟩ ?_)))))
  exact ⟨_, _, rfl, look_perm g6⟩

theorem zIl {w0 w : World} {F : List (Nat × Obj)} {x y u v : Nat × Obj} (h : St w0 w (x :: y :: u :: v :: F)) : St w0 w (x :: y :: F) :=
  (h.perm (zAa [x, y] [u, v] F)).tail.tail
theorem c36 {w0 w : World} {F : List (Nat × Obj)} (p : Port) (a : Option Addr) (c : Nat) (hl3 : p.farms.length ≤ 9223372036854775807) (hc : p.farms.length ≤ c) (ha : Sl w0 F a 6 (rows p.farms)) (hnm : ∀ f ∈ p.farms, f.name.size ≤ 9223372036854775807) (al : Option Addr) (cl : Nat) (l : List Int) (hll : l.length ≤ 9223372036854775807) (hl : Sl w0 F al 1 (l.map fun x => [Value.int .i64 x])) (hs : St w0 w F) :
  Con Tryz.prog 36 [.agg (p.cells a c).toArray, .slice al l.length cl] w fun v w' => (enterErr p l ≠ 0 ∧ v = .tuple #[.pointer none, ia [0,0,0], .int .i64 (enterErr p l)] ∧ St w0 w' F) ∨ (enterErr p l = 0 ∧ ∃ m pb, v = .tuple #[.pointer (some ⟨pb, 0, none⟩), ia (pad l), .int .i64 0] ∧ St w0 w' ((m, .map #[] 0) :: (pb, blk 128 [.int .i64 p.hold, .int .i64 p.clo, .int .i64 p.chi, .slice a p.farms.length c, .map (some m)]) :: F)) := by
  refine zAu (n := 36) func36 rfl rfl (zNl rfl) ?_
  refine zAg (fun K2 gh => (zAc (zCj (v := .agg #[.int _ _, .int _ _, .int _ _, .slice _ _ _]) (cs := [_,_,_,_]) zAb rfl rfl rfl hs (fun b3 w4 gi => ?_))))
  refine zBj rfl rfl (zA0 (cs := iv [0,0,0]) zAb zeroValue85 rfl gi (fun b6 w7 gb => ?_))
  refine zBj rfl rfl (zAe (zAd (gh _ _ (zAg (fun gv gj => (zAc (w_p (zA9 (vs := [_,_,_,_]) isAgg26 sizeOf26 gb rfl rfl (zAl (i := 1) (vs := [_,_,_,_]) rfl rfl)) rfl ?_)))))))
  refine zAr zAb call45 rfl rfl rfl rfl (c45 p _ _ (by omega) (by omega) ha.cons.cons hnm gb) ?_
  rintro _ gw ⟨rfl, g6⟩
  refine w_p (zAi (v := .tuple _) rfl rfl) rfl (w_p (zAh (v := .int _ _) rfl rfl rfl) rfl (w_p (zAh (v := .int _ _) rfl rfl rfl) rfl (w_p (zAh (v := .int _ _) rfl rfl rfl) rfl (zBs rfl rfl (zAe (zAd (gj _ _ (zAg (fun gx gk => (zA8 ?_))))))))))
  refine zAg (fun gy gl => (zAc (zBe rfl rfl (w_p (zCv rfl rfl rfl rfl) rfl (w_p (zAo (v := .bool _) rfl rfl) rfl (zAe (zAd (gl _ _ (zA1 rfl rfl (fun g7 => ?_) (fun g7 => ?_))))))))))
  ·
   try simp only [zS] at g7
   refine zAg (fun gz gm => (zCe [3] [(0,1),(1,0),(2,0),(3,3),(4,0)] zB0 (by kernel_rfl) g6 (fun gA gc => ?_)))
   refine zBb rfl zAb rfl gc (fun _ hq => (zBz (i := 0) isAgg85 sizeOf85 (by first | omega | rfl | (simp only [zL] <;> omega)) hq rfl rfl rfl)) ?_
   refine d_w rfl (fun _ => zA6 rfl rfl) rfl ?_
   refine d_w rfl (fun _ => zAo (v := _) rfl rfl) rfl ?_
   refine zBm rfl ?_
   refine zB6 (i := 0) (l := _) zAb sizeOf85 (by first | omega | rfl | (simp only [zL] <;> omega)) rfl rfl rfl rfl rfl gc rfl (by first | omega | rfl | (simp only [zL] <;> omega)) (fun gB g0 => ?_)
   refine zAe (qn ?_)
   refine d_w rfl (fun _ => zA2 rfl rfl) rfl ?_
   refine zBh ?_
   refine zAd (gm _ _ (zA7 (zAy (zAm (zBa (l := [.tmp 4, .cell 5 85, .tmp 6]) (vs := [_,_,_]) rfl ⟨⟨rfl, show _ = (.pointer _ : Value) from rfl⟩, ⟨rfl, _, rfl, zEr (i := 0) isAgg85 sizeOf85 (by first | omega | rfl | (simp only [zL] <;> omega)) g0 rfl⟩, ⟨rfl, (rfl : _ = Value.int _ _)⟩, trivial⟩ ?_)))))
   first
     | exact .inl ⟨by rw [zEz (by assumption)]; assumption, by rw [zEz (by assumption)]; rfl, g0.tail.tail⟩
     | exact .inl ⟨by rw [zEy (by assumption) (by omega)]; decide, by rw [zEy (by assumption) (by omega)]; rfl, g0.tail.tail⟩
     | exact .inl ⟨by rw [zEx (by assumption) (by omega) (by assumption)]; decide, by rw [zEx (by assumption) (by omega) (by assumption)]; rfl, g0.tail.tail⟩
     | exact .inr ⟨zIh (by assumption) (by omega) (by assumption), m, pb, rfl, zIl g0⟩
  try simp only [zS] at g7
  refine zAg (fun gC gn => (zAc (w_p (zAi (v := .slice _ _ _) rfl rfl) rfl (w_p (zBo underlying35 rfl rfl) rfl (w_p (zAf (o := 3) (i := 2) underlying26 rfl sizeOf24 rfl rfl rfl) rfl (w_p (zAk isAgg24 g6 rfl rfl (zAl (i := 1) (vs := [_]) rfl rfl)) rfl ?_))))))
  refine w_p (zBo underlying24 rfl rfl) rfl (w_p (zCv rfl rfl rfl rfl) rfl (w_p (zAo (v := .bool _) rfl rfl) rfl (zAe (zAd (gn _ _ (zA1 rfl rfl (fun g8 => ?_) (fun g8 => ?_)))))))
  ·
   try simp only [zS] at g8
   refine zAg (fun gD go => (zCe [2] [(0,1),(1,0),(2,3),(3,0)] zB0 (by kernel_rfl) g6 (fun gE gd => ?_)))
   refine zBb rfl zAb rfl gd (fun _ hq => (zBz (i := 0) isAgg85 sizeOf85 (by first | omega | rfl | (simp only [zL] <;> omega)) hq rfl rfl rfl)) ?_
   refine d_w rfl (fun _ => zAo (v := _) rfl rfl) rfl ?_
   refine zBm rfl ?_
   refine zB6 (i := 0) (l := _) zAb sizeOf85 (by first | omega | rfl | (simp only [zL] <;> omega)) rfl rfl rfl rfl rfl gd rfl (by first | omega | rfl | (simp only [zL] <;> omega)) (fun gF g3 => ?_)
   refine zAe (qn ?_)
   refine d_w rfl (fun _ => zAo (v := _) rfl rfl) rfl ?_
   refine zBh ?_
   refine zAd (go _ _ (zA7 (zAy (zAm (zBa (l := [.tmp 4, .cell 5 85, .tmp 6]) (vs := [_,_,_]) rfl ⟨⟨rfl, show _ = (.pointer _ : Value) from rfl⟩, ⟨rfl, _, rfl, zEr (i := 0) isAgg85 sizeOf85 (by first | omega | rfl | (simp only [zL] <;> omega)) g3 rfl⟩, ⟨rfl, (rfl : _ = Value.int _ _)⟩, trivial⟩ ?_)))))
   first
     | exact .inl ⟨by rw [zEz (by assumption)]; assumption, by rw [zEz (by assumption)]; rfl, g3.tail.tail⟩
     | exact .inl ⟨by rw [zEy (by assumption) (by omega)]; decide, by rw [zEy (by assumption) (by omega)]; rfl, g3.tail.tail⟩
     | exact .inl ⟨by rw [zEx (by assumption) (by omega) (by assumption)]; decide, by rw [zEx (by assumption) (by omega) (by assumption)]; rfl, g3.tail.tail⟩
     | exact .inr ⟨zIh (by assumption) (by omega) (by assumption), m, pb, rfl, zIl g3⟩
  try simp only [zS] at g8
  refine zAg (fun gG gp => (zAc (w_p (zAi (v := .slice _ _ _) rfl rfl) rfl (zAr zAb call51 rfl rfl rfl rfl (c51 _ _ _ _ _ (by omega) hl.cons.cons g6) ?_))))
  rintro _ gH ⟨rfl, ge⟩
  refine w_p (zAo (v := .bool _) rfl rfl) rfl (zAe (zAd (gp _ _ (zA1 rfl rfl (fun g9 => ?_) (fun g9 => ?_)))))
  ·
   try simp only [zS] at g9
   refine zAg (fun gI gq => (zCe [2] [(0,1),(1,0),(2,3),(3,0)] zB0 (by kernel_rfl) ge (fun gJ gf => ?_)))
   refine zBb rfl zAb rfl gf (fun _ hq => (zBz (i := 0) isAgg85 sizeOf85 (by first | omega | rfl | (simp only [zL] <;> omega)) hq rfl rfl rfl)) ?_
   refine d_w rfl (fun _ => zAo (v := _) rfl rfl) rfl ?_
   refine zBm rfl ?_
   refine zB6 (i := 0) (l := _) zAb sizeOf85 (by first | omega | rfl | (simp only [zL] <;> omega)) rfl rfl rfl rfl rfl gf rfl (by first | omega | rfl | (simp only [zL] <;> omega)) (fun gK g4 => ?_)
   refine zAe (qn ?_)
   refine d_w rfl (fun _ => zAo (v := _) rfl rfl) rfl ?_
   refine zBh ?_
   refine zAd (gq _ _ (zA7 (zAy (zAm (zBa (l := [.tmp 4, .cell 5 85, .tmp 6]) (vs := [_,_,_]) rfl ⟨⟨rfl, show _ = (.pointer _ : Value) from rfl⟩, ⟨rfl, _, rfl, zEr (i := 0) isAgg85 sizeOf85 (by first | omega | rfl | (simp only [zL] <;> omega)) g4 rfl⟩, ⟨rfl, (rfl : _ = Value.int _ _)⟩, trivial⟩ ?_)))))
   first
     | exact .inl ⟨by rw [zEz (by assumption)]; assumption, by rw [zEz (by assumption)]; rfl, g4.tail.tail⟩
     | exact .inl ⟨by rw [zEy (by assumption) (by omega)]; decide, by rw [zEy (by assumption) (by omega)]; rfl, g4.tail.tail⟩
     | exact .inl ⟨by rw [zEx (by assumption) (by omega) (by assumption)]; decide, by rw [zEx (by assumption) (by omega) (by assumption)]; rfl, g4.tail.tail⟩
     | exact .inr ⟨zIh (by assumption) (by omega) (by assumption), m, pb, rfl, zIl g4⟩
  try simp only [zS] at g9
  refine zAx (zAn (zAd (gk _ _ (zAg (fun gL gr => (zAc (w_p (zGv underlying85 sizeOf3 rfl rfl) rfl (w_p (zAi (v := .slice _ _ _) rfl rfl) rfl (w_copyI (i := 0) zAb underlying35 sizeOf3 rfl rfl rfl rfl ge rfl hl.cons.cons (by first | omega | rfl | (simp only [zL] <;> omega)) (by first | omega | rfl | (simp only [zL] <;> omega)) (fun gM gt => ?_))))))))))
  refine zAe (zAd (gr _ _ (zAg (fun gN gu => (zCe [4] [(0,1),(2,1),(1,2),(3,0),(4,3),(5,0)] zB0 (by kernel_rfl) gt (fun gO ga => ?_))))))
  refine zBb rfl zAb rfl ga (fun _ hq => (zA9 (vs := [_,_,_,_]) isAgg26 sizeOf26 hq rfl rfl (zAl (i := 1) (vs := [_,_,_,_]) rfl rfl))) ?_
  refine zBb rfl zAb rfl ga (fun _ hq => (zBz (i := 0) isAgg85 sizeOf85 (by first | omega | rfl | (simp only [zL] <;> omega)) hq rfl rfl rfl)) ?_
  refine zBl rfl ?_
  refine zAr zAb call46 rfl rfl rfl rfl (c46 p _ _ ga) ?_
  rintro _ gP ⟨m, pb, rfl, gg⟩
  refine zAe (qn ⟨gg.tail.tail, ?_⟩)
  refine d_w rfl (fun _ => zAo (v := .pointer _) rfl rfl) rfl ?_
  refine zBm rfl ?_
  refine zB6 (i := 2) (l := _) zAb sizeOf85 (by first | omega | rfl | (simp only [zL] <;> omega)) rfl rfl rfl rfl rfl gg rfl (by first | omega | rfl | (simp only [zL] <;> omega)) (fun gQ g5 => ?_)
  refine zAe (qn ?_)
  refine d_w rfl (fun _ => zAo (v := _) rfl rfl) rfl ?_
  refine zBh ?_
  refine zAd (gu _ _ (zA7 (zBa (l := [.tmp 4, .cell 5 85, .tmp 6]) (vs := [_,_,_]) rfl ⟨⟨rfl, show _ = (.pointer _ : Value) from rfl⟩, ⟨rfl, _, rfl, zEr (i := 2) isAgg85 sizeOf85 (by first | omega | rfl | (simp only [zL] <;> omega)) g5 rfl⟩, ⟨rfl, (rfl : _ = Value.int _ _)⟩, trivial⟩ ?_)))
  first
    | exact .inl ⟨by rw [zEz (by assumption)]; assumption, by rw [zEz (by assumption)]; rfl, g5.tail.tail.tail.tail⟩
    | exact .inl ⟨by rw [zEy (by assumption) (by omega)]; decide, by rw [zEy (by assumption) (by omega)]; rfl, g5.tail.tail.tail.tail⟩
    | exact .inl ⟨by rw [zEx (by assumption) (by omega) (by assumption)]; decide, by rw [zEx (by assumption) (by omega) (by assumption)]; rfl, g5.tail.tail.tail.tail⟩
    | exact .inr ⟨zIh (by assumption) (by omega) (by assumption), m, pb, rfl, zIl g5⟩

end Go.Proofs.Cb
set_option maxRecDepth 20000
namespace Go.Proofs.Cb
open Go.Proofs.Tryz
open Go.Rt Go.Rt.Ca
attribute [local irreducible] WL WC Con Yd At Ats Sl Agree DW

theorem sl_load {w0 : World} {F : List (Nat × Obj)} {a : Option Addr} {l : List Load} {i : Nat} (h : Sl w0 F a 3 (lrows l)) (hi : i < l.length) :
    ∃ b off, a = some ⟨b, off, none⟩ ∧ Ats w0 F b (off + i * 3) [.int .i64 l[i].least, .int .i64 l[i].most, .int .i64 l[i].vain] := by
  obtain ⟨b, off, ha, _, hat⟩ := h.at (i := i) (row := iv l[i].ints) (by simp [hi])
  exact ⟨b, off, ha, hat⟩
theorem zF5 {w0 w : World} {X M F : List (Nat × Obj)} (p : Port) (a : Option Addr) (c m pb : Nat) (hp : Ats w0 F pb 0 [.int .i64 p.hold, .int .i64 p.clo, .int .i64 p.chi, .slice a p.farms.length c, .map (some m)]) (ha : Sl w0 F a 6 (rows p.farms)) (hok : p.Ok) (l : List Int) (hlen : l.length = 3) (hl1 : ∀ x ∈ l, -1 ≤ x ∧ x ≤ 10) (hM : Memo w0 p m M) (hs : St w0 w (X ++ (M ++ F))) :
    Con Tryz.prog 37 [.pointer (some ⟨pb, 0, none⟩), ia l] w fun v w' => ∃ Z M' a c, v = .slice a (loads p l).length c ∧ Memo w0 p m M' ∧ Z = X ++ (M' ++ F) ∧ Sl w0 Z a 3 (lrows (loads p l)) ∧ St w0 w' Z :=
  (loads_con p a c m pb hp ha hok l hlen hl1 hM hs).mono fun v w' ⟨M', a, c, h1, h2, h3, h4⟩ => ⟨_, M', a, c, h1, h2, rfl, h3, h4⟩
theorem c44 {w0 w : World} {X M F : List (Nat × Obj)} (p : Port) (a : Option Addr) (c m pb : Nat) (hp : Ats w0 F pb 0 [.int .i64 p.hold, .int .i64 p.clo, .int .i64 p.chi, .slice a p.farms.length c, .map (some m)]) (ha : Sl w0 F a 6 (rows p.farms)) (hok : p.Ok) (l : List Int) (hlen : l.length = 3) (hl1 : ∀ x ∈ l, -1 ≤ x ∧ x ≤ 10) (hM : Memo w0 p m M) (hs : St w0 w (X ++ (M ++ F))) :
  Con Tryz.prog 44 [.pointer (some ⟨pb, 0, none⟩), ia l] w fun v w' => v = .int .i64 (vain p l) ∧ ∃ M', Memo w0 p m M' ∧ St w0 w' (X ++ (M' ++ F)) := by
  refine zAu (n := 21) func44 rfl rfl (zNl rfl) ?_
  have hcome := hok.come
  have hll := zD4 p l
  refine zAg (fun K2 g5 => (zAc (zDu (l := _) zAb rfl rfl rfl hs (fun b3 w4 g3 => ?_))))
  refine zBj rfl rfl (zAe (zAd (g5 _ _ (zAg (fun K7 g6 => (zAg (fun K9 g7 => (zAc (w_p (zAi (v := .pointer _) rfl rfl) rfl (w_p (zBz (i := 0) isAgg85 sizeOf85 (by first | omega | rfl | (simp only [zL] <;> omega)) g3 rfl rfl rfl) rfl ?_))))))))))
  refine zAr zAb call37 rfl rfl rfl rfl (zF5 (X := _ :: X) p _ c m pb hp ha hok l hlen hl1 hM g3) ?_
  rintro _ gh ⟨Z, M1, al, cl, rfl, g8, hz, hsl, g9⟩
  refine w_p (zBo underlying88 rfl rfl) rfl (w_p (zAi (v := _) rfl rfl) rfl (zAe (zAd (g7 _ _ (zA8 ?_)))))
  refine zCd [4,6,11,12,13,14,15,16,17,18,19] [4,11] (fun k vs w => ∃ i : Nat, vs = [.int .i64 (vainUpto p l i), .int .i64 i] ∧ i ≤ (loads p l).length ∧ k = (loads p l).length - i ∧ St w0 w Z) ((loads p l).length) ?_ ?_
  ·
   exact ⟨0, rfl, by omega, by omega, g9⟩
  intro k vs μ gi hI gj ga
  obtain ⟨i, rfl, hia, rfl, hs⟩ := hI
  refine zAg (fun gk gb => (zAc (w_p (zCl rfl rfl rfl rfl) rfl (zAe (zAd (gb _ _ (zAg (fun gl gc => (zA1 rfl rfl (fun g0 => ?_) (fun g0 => ?_))))))))))
  ·
   try simp only [zS] at g0
   refine zAx (zAd (gc _ _ (zAg (fun gm gd => (zA8 ?_)))))
   refine zAg (fun gn ge => ?_)
   have hx2 : i < (loads p l).length := by omega
   obtain ⟨bx, ox, rfl, hx⟩ := sl_load hsl hx2
   refine zAc (w_p (zBk underlying88 sizeOf91 rfl rfl rfl rfl (i := _) rfl (by omega)) rfl (w_p (zA9 (vs := [_,_,_]) isAgg91 sizeOf91 hs rfl rfl hx) rfl (zA0 (cs := [_,_,_]) zAb zeroValue91 rfl hs (fun go gp gf => ?_))))
   refine zAs (i := 0) (v := .agg #[.int _ _, .int _ _, .int _ _]) (vs := [_,_,_]) zAb sizeOf91 rfl rfl rfl rfl rfl (by simp [Value.oneCell']) gf rfl (zNl rfl) (fun gq g4 => ?_)
   refine zAe (zAd (ge _ _ (zAc (zBe rfl rfl (w_p (zAf (o := 2) (i := 2) underlying91 rfl sizeOf3 rfl rfl rfl) rfl (w_p (zAk isAgg3 g4 rfl rfl (zAl (i := 0) (vs := [_]) rfl rfl)) rfl ?_))))))
   refine w_p (y_max2 rfl rfl rfl rfl) rfl (zBs rfl rfl (zAe (zAn (zAd (gd _ _ (zAc (w_p (zBq rfl rfl rfl rfl (by omega) (by omega)) rfl (zBe rfl rfl (zAe (zAd (ga _ _ (nxI ((loads p l).length - (i + 1)) (by omega) ?_))))))))))))
   exact ⟨i + 1, iv2 (vainUpto_get hx2) rfl, by omega, rfl, g4.tail⟩
  try simp only [zS] at g0
  refine zBy (zAq (zAq (zBc (zAd (g6 _ _ (zAg (fun gr gg => (zAc (zBe rfl rfl (zBs rfl rfl (zAe (zAd (gg _ _ (zA7 (zBa (l := [.tmp 4]) (vs := [_]) rfl ⟨⟨rfl, (rfl : _ = Value.int _ _)⟩, trivial⟩ ?_)))))))))))))))
  exact ⟨congrArg (Value.int .i64) (zFp l (by omega)), M1, g8, (show St w0 _ (_ :: (X ++ (M1 ++ F))) from St.cast hz hs).tail⟩

theorem cut_yes {n : Int} {f : Farm} {c : Int} (h : ¬ c = -1) : cutStep n (f, c) = n + f.hi := by unfold cutStep; rw [if_neg h]
theorem cut_no {n : Int} {f : Farm} {c : Int} (h : c = -1) : cutStep n (f, c) = n := by unfold cutStep; rw [if_pos h]
theorem c50 {w0 w : World} {F : List (Nat × Obj)} (p : Port) (a : Option Addr) (c m pb : Nat) (hp : Ats w0 F pb 0 [.int .i64 p.hold, .int .i64 p.clo, .int .i64 p.chi, .slice a p.farms.length c, .map (some m)]) (ha : Sl w0 F a 6 (rows p.farms)) (hok : p.Ok) (l : List Int) (hlen : l.length = 3) (hl1 : ∀ x ∈ l, -1 ≤ x ∧ x ≤ 10) (hs : St w0 w F) :
  Con Tryz.prog 50 [.pointer (some ⟨pb, 0, none⟩), ia l] w fun v w' => v = .int .i64 (cut p.farms l) ∧ St w0 w' F := by
  refine zAu (n := 29) func50 rfl rfl (zNl rfl) ?_
  have hlen3 := hok.len
  refine zAg (fun K2 g8 => (zAc (zDu (l := _) zAb rfl rfl rfl hs (fun b3 w4 g5 => ?_))))
  refine zBj rfl rfl (zAe (zAd (g8 _ _ (zAg (fun K7 g9 => (zAg (fun K9 ga => (zAc (w_p (zAi (v := .pointer _) rfl rfl) rfl (w_p (zBn rfl rfl) rfl ?_))))))))))
  refine w_p (zAf (o := 0) (i := 0) underlying128 rfl sizeOf26 rfl rfl rfl) rfl (w_p (zAf (o := 3) (i := 2) underlying26 rfl sizeOf24 rfl rfl rfl) rfl (w_p (zAk isAgg24 g5.tail rfl rfl (show Ats _ _ _ _ [_] from Ats.part hp 3 1)) rfl (w_p (zBo underlying24 rfl rfl) rfl ?_)))
  refine w_p (zAi (v := _) rfl rfl) rfl (zAe (zAd (ga _ _ (zA8 ?_))))
  refine zCd [4,5,6,13,14,15,16,17,18,19,20,21,22,23,24,25,26,27] [4,13] (fun k vs w => ∃ (i : Nat) (x : Int), x = cutUpto p.farms l i ∧ vs = [.int .i64 x, .int .i64 i] ∧ i ≤ p.farms.length ∧ k = p.farms.length - i ∧ St w0 w ((b3, blk 85 (iv l)) :: F)) (p.farms.length) ?_ ?_
  ·
   exact ⟨0,0, rfl, rfl, by omega, by omega, g5⟩
  intro k vs μ gh hI gi g6
  obtain ⟨i, x, hxx, rfl, hia, rfl, hs⟩ := hI
  refine zAg (fun gj gb => (zAc (w_p (zCl rfl rfl rfl rfl) rfl (zAe (zAd (gb _ _ (zAg (fun gk gc => (zA1 rfl rfl (fun g3 => ?_) (fun g3 => ?_))))))))))
  ·
   try simp only [zS] at g3
   refine zAx (zAd (gc _ _ (zAg (fun gl g7 => (zA8 ?_)))))
   refine zAg (fun gm gd => ?_)
   have hi2 : i < p.farms.length := by omega
   have hi3 : i < l.length := by omega
   obtain ⟨bx, ox, rfl, hx⟩ := sl_farm ha hi2
   have hfo := hok.farm _ (List.getElem_mem hi2)
   have hfo2 := hfo
   unfold Farm.Ok at hfo2
   have hgd : l[i] = l.getD i 0 := by simp [List.getD, hi3]
   have hl2 := hl1 (l.getD i 0) (by rw [← hgd]; exact List.getElem_mem hi3)
   have hb := cutUpto_bound (fs := p.farms) (l := l) i (by omega) hok.farm
   rw [← hxx] at hb
   refine zAc (zBe rfl rfl (w_p (zBk underlying24 sizeOf33 rfl rfl rfl rfl (i := _) rfl (by omega)) rfl (w_p (zA9 (vs := [_,_,_,_,_,_]) isAgg33 sizeOf33 hs.tail rfl rfl hx) rfl (zA0 (cs := [_,_,_,_,_,_]) zAb zeroValue33 rfl hs (fun gn go ge => ?_)))))
   refine zBs rfl rfl (zAs (i := 0) (v := .agg #[.string _, .int _ _, .int _ _, .int _ _, .int _ _, .int _ _]) (vs := [_,_,_,_,_,_]) zAb sizeOf33 rfl rfl rfl rfl rfl (by simp [Value.oneCell']) ge rfl (zNl rfl) (fun gp g0 => ?_))
   refine zAe (zAd (gd _ _ (zAg (fun gq gf => (zAc (zBe rfl rfl (w_p (zCb underlying85 sizeOf3 rfl rfl rfl rfl (i := i) (by first | rfl | omega) (by omega)) rfl ?_)))))))
   refine w_p (zAk isAgg3 g0 rfl rfl (zCy (i := 1) (j := i) rfl (by first | omega | rfl | (simp only [zL] <;> omega)))) rfl ?_
   refine w_p (zCv rfl rfl rfl rfl) rfl (zAe (zAd (gf _ _ (zA1 rfl rfl (fun g4 => ?_) (fun g4 => ?_)))))
   ·
    try simp only [zS] at g4
    refine zAc (zBe rfl rfl (w_p (zAf (o := 4) (i := 4) underlying33 rfl sizeOf23 rfl rfl rfl) rfl (w_p (zAf (o := 1) (i := 1) underlying23 rfl sizeOf3 rfl rfl rfl) rfl (w_p (zAk isAgg3 g0 rfl rfl (zAl (i := 0) (vs := [_]) rfl rfl)) rfl ?_))))
    refine w_p (zBq rfl rfl rfl rfl (by omega) (by omega)) rfl (zBs rfl rfl (zAe (zAn (zAd (g7 _ _ (zAc (w_p (zBq rfl rfl rfl rfl (by omega) (by omega)) rfl ?_)))))))
    refine zBe rfl rfl (zAe (zAd (g6 _ _ (nxI (p.farms.length - (i + 1)) (by omega) ?_))))
    first
      | exact ⟨i + 1, x + p.farms[i].hi, (by rw [zE0 hi2 hi3, ← hxx]; exact (cut_yes (by assumption)).symm), rfl, by omega, rfl, g0.tail⟩
      | exact ⟨i + 1, x, (by rw [zE0 hi2 hi3, ← hxx]; exact (cut_no (by assumption)).symm), rfl, by omega, rfl, g0.tail⟩
   try simp only [zS] at g4
   refine zAx (zAn (zAd (g7 _ _ (zAc (w_p (zBq rfl rfl rfl rfl (by omega) (by omega)) rfl (zBe rfl rfl (zAe (zAd (g6 _ _ (nxI (p.farms.length - (i + 1)) (by omega) ?_))))))))))
   first
     | exact ⟨i + 1, x + p.farms[i].hi, (by rw [zE0 hi2 hi3, ← hxx]; exact (cut_yes (by assumption)).symm), rfl, by omega, rfl, g0.tail⟩
     | exact ⟨i + 1, x, (by rw [zE0 hi2 hi3, ← hxx]; exact (cut_no (by assumption)).symm), rfl, by omega, rfl, g0.tail⟩
  try simp only [zS] at g3
  refine zBy (zAq (zAq (zBc (zAd (g9 _ _ (zAg (fun gr gg => (zAc (zBe rfl rfl (zBs rfl rfl (zAe (zAd (gg _ _ (zA7 (zBa (l := [.tmp 4]) (vs := [_]) rfl ⟨⟨rfl, (rfl : _ = Value.int _ _)⟩, trivial⟩ ?_)))))))))))))))
  exact ⟨congrArg (Value.int .i64) (by rw [hxx]; exact cutUpto_all (by omega)), hs.tail⟩

theorem c55 {w0 w : World} {F : List (Nat × Obj)} (p : Port) (a : Option Addr) (c m pb : Nat) (hp : Ats w0 F pb 0 [.int .i64 p.hold, .int .i64 p.clo, .int .i64 p.chi, .slice a p.farms.length c, .map (some m)]) (ha : Sl w0 F a 6 (rows p.farms)) (hok : p.Ok) (l : List Int) (hlen : l.length = 3) (hl1 : ∀ x ∈ l, -1 ≤ x ∧ x ≤ 10) (f0 : Int) (hf0 : 0 ≤ f0) (hf1 : f0 ≤ 11) (hs : St w0 w F) :
  Con Tryz.prog 55 [.pointer (some ⟨pb, 0, none⟩), ia l, .int .i64 f0] w fun v w' => v = .int .i64 (worst p l f0) ∧ St w0 w' F := by
  refine zAu (n := 88) func55 rfl rfl (zNl rfl) ?_
  have hlen3 := hok.len
  have hcome := hok.come
  refine zAg (fun K2 gh => (zAc (zDu (l := _) zAb rfl rfl rfl hs (fun b3 w4 gf => ?_))))
  refine zBj rfl rfl (zAe (zAd (gh _ _ (zAg (fun K7 gi => (zAg (fun K9 gj => (zAc (w_p (zAi (v := .pointer _) rfl rfl) rfl (w_p (zBn rfl rfl) rfl ?_))))))))))
  refine w_p (zAf (o := 0) (i := 0) underlying128 rfl sizeOf26 rfl rfl rfl) rfl (w_p (zAf (o := 1) (i := 1) underlying26 rfl sizeOf23 rfl rfl rfl) rfl (w_p (zAf (o := 0) (i := 0) underlying23 rfl sizeOf3 rfl rfl rfl) rfl (w_p (zAk isAgg3 gf.tail rfl rfl (show Ats _ _ _ _ [_] from Ats.part hp 1 1)) rfl ?_)))
  refine zBs rfl rfl (zAe (zAd (gj _ _ (zA8 ?_))))
  refine zCd [6,7,8,9,10,11,18,19,20,21,22,23,24,25,26,27,28,29,30,31,32,33,34,35,36,37,38,39,40,41,42,43,44,45,46,47,48,49,50,51,52,53,54,55,56,57,58,59,60,61,62,63,64,65,66,67,68,69,70,71,72,73,74,75,76,77,78,79,80,81,82,83,84,85,86] [6,7] (fun k vs w => ∃ (q : Nat), vs = [.int .i64 (vainUpto p l q), .int .i64 (p.clo + q)] ∧ (q : Int) ≤ p.chi - p.clo + 1 ∧ k = (p.chi - p.clo + 1 - q).toNat ∧ fullTUpto p l f0 q = true ∧ St w0 w ((b3, blk 85 (iv l)) :: F)) ((p.chi - p.clo + 1).toNat) ?_ ?_
  ·
   exact ⟨0, iv2 (show (0 : Int) = vainUpto p l 0 from rfl) (by omega), by omega, by simp, by simp [fullTUpto], gf⟩
  intro k vs μ gE hI gF gk
  obtain ⟨q, rfl, hq, rfl, hfu, hs⟩ := hI
  refine zAg (fun gG gl => (zAg (fun gH gm => (zAc (zBe rfl rfl (w_p (zAi (v := .pointer _) rfl rfl) rfl (w_p (zBn rfl rfl) rfl (w_p (zAf (o := 0) (i := 0) underlying128 rfl sizeOf26 rfl rfl rfl) rfl ?_))))))))
  refine w_p (zAf (o := 1) (i := 1) underlying26 rfl sizeOf23 rfl rfl rfl) rfl (w_p (zAf (o := 1) (i := 1) underlying23 rfl sizeOf3 rfl rfl rfl) rfl (w_p (zAk isAgg3 hs.tail rfl rfl (show Ats _ _ _ _ [_] from Ats.part hp 2 1)) rfl (w_p (zGf rfl rfl rfl rfl) rfl ?_)))
  refine zAe (zAd (gm _ _ (zA1 rfl rfl (fun g7 => ?_) (fun g7 => ?_))))
  ·
   try simp only [zS] at g7
   refine zAx (zAd (gl _ _ (zAg (fun gI gn => (zA8 ?_)))))
   refine zAg (fun gJ go => (zAc (w_p (zAi (v := .pointer _) rfl rfl) rfl (w_p (zBz (i := 0) isAgg85 sizeOf85 (by first | omega | rfl | (simp only [zL] <;> omega)) hs rfl rfl rfl) rfl ?_))))
   refine zBe rfl rfl (zAr zAb call73 rfl rfl rfl rfl (c73 p _ c m pb hp.cons ha.cons hok l hlen hl1 _ (by omega) (by omega) hs) ?_)
   rintro _ gK ⟨rfl, gp⟩
   refine zA0 (cs := [_,_,_]) zAb zeroValue91 rfl gp (fun gq gL gr => ?_)
   refine zAs (i := 0) (v := .agg #[.int _ _, .int _ _, .int _ _]) (vs := [_,_,_]) zAb sizeOf91 rfl rfl rfl rfl rfl (by simp [Value.oneCell']) gr rfl (zNl rfl) (fun gM gg => ?_)
   refine zAe (zAd (go _ _ (zAg (fun gN gt => (zAg (fun gO gu => (zAc (w_p (zAi (v := .pointer _) rfl rfl) rfl (w_p (zBn rfl rfl) rfl ?_)))))))))
   refine w_p (zAf (o := 0) (i := 0) underlying128 rfl sizeOf26 rfl rfl rfl) rfl (w_p (zAf (o := 3) (i := 2) underlying26 rfl sizeOf24 rfl rfl rfl) rfl (w_p (zAk isAgg24 gg.tail.tail rfl rfl (show Ats _ _ _ _ [_] from Ats.part hp 3 1)) rfl (w_p (zBo underlying24 rfl rfl) rfl ?_)))
   refine w_p (zAi (v := _) rfl rfl) rfl (zAe (zAd (gu _ _ (zA8 ?_))))
   refine zCd [9,10,11,38,39,40,41,42,43,44,45,46,47,48,49,50,51,52,53,54,55,56,57,58,59,60,61,62,63,64,65,66,67,68,69,70,71,72,73,74] [38] (fun k vs w => ∃ (i : Nat) (x : Int), x = leastUpto p.farms l f0 (p.clo + q) i ∧ vs = [.int .i64 i] ∧ i ≤ p.farms.length ∧ k = p.farms.length - i ∧ St w0 w ((gq, blk 91 [.int .i64 x, .int .i64 (on p.farms l (p.clo + q)).most, .int .i64 (on p.farms l (p.clo + q)).vain]) :: (b3, blk 85 (iv l)) :: F)) (p.farms.length) ?_ ?_
   ·
    exact ⟨0, _, rfl, rfl, by omega, by omega, gg⟩
   intro k vs μ gP hI gQ g5
   obtain ⟨i, x, hxx, rfl, hia, rfl, hs⟩ := hI
   refine zAg (fun gR gv => (zAc (w_p (zCl rfl rfl rfl rfl) rfl (zAe (zAd (gv _ _ (zAg (fun gS gw => (zA1 rfl rfl (fun g8 => ?_) (fun g8 => ?_))))))))))
   ·
    try simp only [zS] at g8
    refine zAx (zAd (gw _ _ (zAg (fun gT g6 => (zA8 ?_)))))
    refine zAg (fun gU gx => ?_)
    have hi2 : i < p.farms.length := by omega
    have hi3 : i < l.length := by omega
    obtain ⟨bx, ox, rfl, hx⟩ := sl_farm ha hi2
    have hfo := hok.farm _ (List.getElem_mem hi2)
    have hfo2 := hfo
    unfold Farm.Ok at hfo2
    have hgd : l[i] = l.getD i 0 := by simp [List.getD, hi3]
    have hl2 := hl1 (l.getD i 0) (by rw [← hgd]; exact List.getElem_mem hi3)
    have hb := leastUpto_bound (fs := p.farms) (l := l) f0 (p.clo + q) i (by omega) (by omega) hok.farm
    rw [← hxx] at hb
    refine zAc (zBe rfl rfl (w_p (zBk underlying24 sizeOf33 rfl rfl rfl rfl (i := _) rfl (by omega)) rfl (w_p (zA9 (vs := [_,_,_,_,_,_]) isAgg33 sizeOf33 hs.tail.tail rfl rfl hx) rfl (zA0 (cs := [_,_,_,_,_,_]) zAb zeroValue33 rfl hs (fun gV gW gy => ?_)))))
    refine zBs rfl rfl (zAs (i := 0) (v := .agg #[.string _, .int _ _, .int _ _, .int _ _, .int _ _, .int _ _]) (vs := [_,_,_,_,_,_]) zAb sizeOf33 rfl rfl rfl rfl rfl (by simp [Value.oneCell']) gy rfl (zNl rfl) (fun gX g0 => ?_))
    refine zAe (zAd (gx _ _ (zAg (fun gY gz => (zAc (zBe rfl rfl (w_p (zAf (o := 1) (i := 1) underlying33 rfl sizeOf3 rfl rfl rfl) rfl (w_p (zAk isAgg3 g0 rfl rfl (zAl (i := 0) (vs := [_]) rfl rfl)) rfl ?_))))))))
    refine w_p (zHg rfl rfl rfl rfl (by omega) (by omega)) rfl (w_p (zAf (o := 2) (i := 2) underlying33 rfl sizeOf3 rfl rfl rfl) rfl (w_p (zAk isAgg3 g0 rfl rfl (zAl (i := 0) (vs := [_]) rfl rfl)) rfl ?_))
    refine w_p (zHg rfl rfl rfl rfl (by omega) (by omega)) rfl (w_p (y_min2 rfl rfl rfl rfl) rfl (zBs rfl rfl (zAe (zAd (gz _ _ (zAg (fun gZ g9 => (zAc (zBe rfl rfl (w_p (zCb underlying85 sizeOf3 rfl rfl rfl rfl (i := i) (by first | rfl | omega) (by omega)) rfl ?_))))))))))
    refine w_p (zAk isAgg3 g0 rfl rfl (zCy (i := 2) (j := i) rfl (by first | omega | rfl | (simp only [zL] <;> omega)))) rfl ?_
    refine w_p (zB3 rfl rfl rfl rfl) rfl (w_p (zAi (v := .bool _) rfl rfl) rfl (zBp (fun ga => ?_) (fun ga => ?_)))
    ·
     try simp only [zS] at ga
     refine w_y rfl rfl rfl (zA6 rfl rfl) rfl ?_
     refine w_y rfl rfl rfl (zA6 rfl rfl) rfl ?_
     refine w_y rfl rfl rfl (zHh rfl rfl rfl rfl) rfl ?_
     refine w_p (zAv (v := .bool _) rfl rfl rfl rfl) rfl (w_p (zAi (v := .bool _) rfl rfl) rfl (zBp (fun gb => ?_) (fun gb => ?_)))
     ·
      try simp only [zS] at gb
      refine w_y rfl rfl rfl (zAi (v := .pointer _) rfl rfl) rfl ?_
      refine w_y rfl rfl rfl (zA6 rfl rfl) rfl ?_
      refine w_y rfl rfl rfl (zA6 rfl rfl) rfl ?_
      refine w_y rfl rfl rfl (zA6 rfl rfl) rfl ?_
      refine zAr (zAp rfl rfl rfl) call81 rfl rfl rfl rfl (c81 p _ c m pb hp.cons.cons.cons ha.cons.cons.cons hok i hi2 _ _ (by omega) (by omega) (by omega) (by omega) g0) ?_
      rintro _ hD ⟨rfl, g3⟩
      refine w_p (zAv (v := .bool _) rfl rfl rfl rfl) rfl (zAe (zAd (g9 _ _ (zA1 rfl rfl (fun gc => ?_) (fun gc => ?_)))))
      ·
       try simp only [zS] at gc
       refine zAc (w_p (zAf (o := 0) (i := 0) underlying91 rfl sizeOf3 rfl rfl rfl) rfl (w_p (zAk isAgg3 g3 rfl rfl (zAl (i := 1) (vs := [_]) rfl rfl)) rfl (w_p (zAf (o := 4) (i := 4) underlying33 rfl sizeOf23 rfl rfl rfl) rfl ?_)))
       refine w_p (zAf (o := 0) (i := 0) underlying23 rfl sizeOf3 rfl rfl rfl) rfl (w_p (zAk isAgg3 g3 rfl rfl (zAl (i := 0) (vs := [_]) rfl rfl)) rfl (w_p (zBq rfl rfl rfl rfl (by omega) (by omega)) rfl ?_))
       refine w_p (zAf (o := 0) (i := 0) underlying91 rfl sizeOf3 rfl rfl rfl) rfl (zAs (i := 1) (v := .int _ _) (vs := [_]) zAb sizeOf3 rfl rfl rfl rfl rfl (by simp [Value.oneCell']) g3 rfl (zNl rfl) (fun hG gd => ?_))
       refine zAe (zAn (zAd (g6 _ _ (zAc (w_p (zBq rfl rfl rfl rfl (by omega) (by omega)) rfl (zBe rfl rfl (zAe (zAd (g5 _ _ (nxI (p.farms.length - (i + 1)) (by omega) ?_))))))))))
       first
         | exact ⟨i + 1, x + p.farms[i].lo, (by rw [zCg f0 _ hi2 hi3, ← hxx]; exact zIe (by assumption) (by assumption) (by assumption)), rfl, by omega, rfl, gd.tail⟩
         | exact ⟨i + 1, x, (by rw [zCg f0 _ hi2 hi3, ← hxx]; exact zFu (fun hh => by first | exact absurd hh.1 (by assumption) | (have := hh.2.1; omega) | (have h2 := hh.2.2; simp_all; done))), rfl, by omega, rfl, gd.tail⟩
         | exact ⟨i + 1, x, (by rw [zCg f0 _ hi2 hi3, ← hxx]; exact zFu (fun hh => by rw [hh.2.2] at *; contradiction)), rfl, by omega, rfl, gd.tail⟩
      try simp only [zS] at gc
      refine zAx (zAn (zAd (g6 _ _ (zAc (w_p (zBq rfl rfl rfl rfl (by omega) (by omega)) rfl (zBe rfl rfl (zAe (zAd (g5 _ _ (nxI (p.farms.length - (i + 1)) (by omega) ?_))))))))))
      first
        | exact ⟨i + 1, x + p.farms[i].lo, (by rw [zCg f0 _ hi2 hi3, ← hxx]; exact zIe (by assumption) (by assumption) (by assumption)), rfl, by omega, rfl, g3.tail⟩
        | exact ⟨i + 1, x, (by rw [zCg f0 _ hi2 hi3, ← hxx]; exact zFu (fun hh => by first | exact absurd hh.1 (by assumption) | (have := hh.2.1; omega) | (have h2 := hh.2.2; simp_all; done))), rfl, by omega, rfl, g3.tail⟩
        | exact ⟨i + 1, x, (by rw [zCg f0 _ hi2 hi3, ← hxx]; exact zFu (fun hh => by rw [hh.2.2] at *; contradiction)), rfl, by omega, rfl, g3.tail⟩
     try simp only [zS] at gb
     refine zAj rfl rfl rfl ?_
     refine zAj rfl rfl rfl ?_
     refine zAj rfl rfl rfl ?_
     refine zAj rfl rfl rfl ?_
     refine zAj rfl rfl rfl ?_
     refine w_p (zBg (v := _) rfl rfl rfl rfl) rfl (zAe (zAd (g9 _ _ (zB7 rfl rfl ?_))))
     refine zAx (zAn (zAd (g6 _ _ (zAc (w_p (zBq rfl rfl rfl rfl (by omega) (by omega)) rfl (zBe rfl rfl (zAe (zAd (g5 _ _ (nxI (p.farms.length - (i + 1)) (by omega) ?_))))))))))
     first
       | exact ⟨i + 1, x + p.farms[i].lo, (by rw [zCg f0 _ hi2 hi3, ← hxx]; exact zIe (by assumption) (by assumption) (by assumption)), rfl, by omega, rfl, g0.tail⟩
       | exact ⟨i + 1, x, (by rw [zCg f0 _ hi2 hi3, ← hxx]; exact zFu (fun hh => by first | exact absurd hh.1 (by assumption) | (have := hh.2.1; omega) | (have h2 := hh.2.2; simp_all; done))), rfl, by omega, rfl, g0.tail⟩
       | exact ⟨i + 1, x, (by rw [zCg f0 _ hi2 hi3, ← hxx]; exact zFu (fun hh => by rw [hh.2.2] at *; contradiction)), rfl, by omega, rfl, g0.tail⟩
    try simp only [zS] at ga
    refine zAj rfl rfl rfl ?_
    refine zAj rfl rfl rfl ?_
    refine zAj rfl rfl rfl ?_
    refine w_p (zBg (v := _) rfl rfl rfl rfl) rfl (w_p (zAi (v := .bool _) rfl rfl) rfl (zAj rfl rfl rfl ?_))
    refine zAj rfl rfl rfl ?_
    refine zAj rfl rfl rfl ?_
    refine zAj rfl rfl rfl ?_
    refine zAj rfl rfl rfl ?_
    refine w_p (zBg (v := _) rfl rfl rfl rfl) rfl (zAe (zAd (g9 _ _ (zB7 rfl rfl ?_))))
    refine zAx (zAn (zAd (g6 _ _ (zAc (w_p (zBq rfl rfl rfl rfl (by omega) (by omega)) rfl (zBe rfl rfl (zAe (zAd (g5 _ _ (nxI (p.farms.length - (i + 1)) (by omega) ?_))))))))))
    first
      | exact ⟨i + 1, x + p.farms[i].lo, (by rw [zCg f0 _ hi2 hi3, ← hxx]; exact zIe (by assumption) (by assumption) (by assumption)), rfl, by omega, rfl, g0.tail⟩
      | exact ⟨i + 1, x, (by rw [zCg f0 _ hi2 hi3, ← hxx]; exact zFu (fun hh => by first | exact absurd hh.1 (by assumption) | (have := hh.2.1; omega) | (have h2 := hh.2.2; simp_all; done))), rfl, by omega, rfl, g0.tail⟩
      | exact ⟨i + 1, x, (by rw [zCg f0 _ hi2 hi3, ← hxx]; exact zFu (fun hh => by rw [hh.2.2] at *; contradiction)), rfl, by omega, rfl, g0.tail⟩
   try simp only [zS] at g8
   refine zBy (zAq (zAq (zBc (zAd (gt _ _ (zAg (fun hH gA => (zAg (fun hN gB => (zCe [] [(0,0),(1,1),(2,0),(3,0),(4,0),(5,0),(6,1),(7,0)] zB0 (by kernel_rfl) hs (fun hO g4 => ?_)))))))))))
   refine d_w rfl (fun _ => zAf (o := 0) (i := 0) underlying91 rfl sizeOf3 rfl rfl rfl) rfl ?_
   refine zBb rfl zAb rfl g4 (fun _ hq => (zAk isAgg3 hq rfl rfl (zAl (i := 0) (vs := [_]) rfl rfl))) ?_
   refine d_w rfl (fun _ => zAi (v := .pointer _) rfl rfl) rfl ?_
   refine d_w rfl (fun _ => zBn rfl rfl) rfl ?_
   refine d_w rfl (fun _ => zAf (o := 0) (i := 0) underlying128 rfl sizeOf26 rfl rfl rfl) rfl ?_
   refine d_w rfl (fun _ => zAf (o := 0) (i := 0) underlying26 rfl sizeOf3 rfl rfl rfl) rfl ?_
   refine zBb rfl zAb rfl g4 (fun _ hq => (zAk isAgg3 hq.tail.tail rfl rfl (show Ats _ _ _ _ [_] from Ats.part hp 0 1))) ?_
   refine d_w rfl (fun _ => zCl rfl rfl rfl rfl) rfl ?_
   refine zBh ?_
   refine zAd (gB _ _ (zA1 rfl rfl (fun ge => ?_) (fun ge => ?_)))
   ·
    try simp only [zS] at ge
    refine zAg (fun hP gC => (zAc (zBj rfl rfl (zAe (zAd (gC _ _ (zA7 (zAm (zAy (zAm (zAm (zAy (zAm (zBa (l := [.tmp 6]) (vs := [_]) rfl ⟨⟨rfl, (rfl : _ = Value.int _ _)⟩, trivial⟩ ?_))))))))))))))
    first
      | exact ⟨congrArg (Value.int .i64) (by unfold worst; rw [← zG8 l f0 (i := q) (by omega), hfu, if_pos rfl]; exact zFp l (by omega)), g4.tail.tail⟩
      | exact ⟨congrArg (Value.int .i64) (by unfold worst; rw [if_neg]; rw [fullT_false l f0 (i := q + 1) (by rw [zE2 l f0 (by omega), hfu, ← zFl (i := i) f0 _ (by omega), ← hxx]; simpa using ‹_›)]; simp), g4.tail.tail⟩
   try simp only [zS] at ge
   refine zAx (zAd (gA _ _ (zAc (zBe rfl rfl (w_p (zAf (o := 2) (i := 2) underlying91 rfl sizeOf3 rfl rfl rfl) rfl (w_p (zAk isAgg3 g4 rfl rfl (zAl (i := 0) (vs := [_]) rfl rfl)) rfl ?_))))))
   refine w_p (y_max2 rfl rfl rfl rfl) rfl (zBs rfl rfl (zAe (zAn (zAd (gn _ _ (zAc (zBe rfl rfl (w_p (zBq rfl rfl rfl rfl (by omega) (by omega)) rfl ?_))))))))
   refine zBs rfl rfl (zAe (zAd (gk _ _ (nxI ((p.chi - p.clo + 1 - (q + 1 : Nat)).toNat) (by omega) ?_))))
   exact ⟨q + 1, iv2 (vainUpto_succ l (by omega)).symm (by omega), by omega, rfl, (by rw [zE2 l f0 (by omega), hfu, ← zFl (i := i) f0 _ (by omega), ← hxx]; simpa using ‹_›), g4.tail⟩
  try simp only [zS] at g7
  refine zBy (zAq (zAq (zBc (zAd (gi _ _ (zAg (fun hX gD => (zAc (zBe rfl rfl (zBs rfl rfl (zAe (zAd (gD _ _ (zA7 (zBa (l := [.tmp 6]) (vs := [_]) rfl ⟨⟨rfl, (rfl : _ = Value.int _ _)⟩, trivial⟩ ?_)))))))))))))))
  first
    | exact ⟨congrArg (Value.int .i64) (by unfold worst; rw [← zG8 l f0 (i := q) (by omega), hfu, if_pos rfl]; exact zFp l (by omega)), hs.tail⟩
    | exact ⟨congrArg (Value.int .i64) (by unfold worst; rw [if_neg]; rw [fullT_false l f0 (i := q + 1) (by rw [zE2 l f0 (by omega), hfu, ← zFl (i := i) f0 _ (by omega), ← hxx]; simpa using ‹_›)]; simp), hs.tail⟩

end Go.Proofs.Cb
set_option maxRecDepth 20000
namespace Go.Proofs.Cb
open Go.Proofs.Tryz
open Go.Rt Go.Rt.Ca
attribute [local irreducible] WL WC Con Yd At Ats Sl Agree DW
theorem Try_CJ_fb5 (x0 : Int) (x1 : Int) (w : World) : (Instr.build 23 [(0, .int .i64 x0),(1, .int .i64 x1)].toArray).run Tryz.prog w = .ok (.agg #[.int .i64 x0, .int .i64 x1]) w := by kernel_rfl
theorem Try_CJ_fb6 (x0 : Int) (x1 : Int) (w : World) : (Instr.buildSlice 36 1 [(0, .agg #[.int .i64 x0, .int .i64 x1])].toArray).run Tryz.prog w = .ok (.slice (some ⟨w.heap.size, 0, none⟩) 1 1) (w.alloc (Go.Rt.blk 23 [.int .i64 x0, .int .i64 x1])) := by kernel_rfl
theorem Try_info23 : Tryz.prog.info? 23 = some Tryz.t23 := by kernel_rfl
theorem zC9 {α : Type} {L : List α} {f : α → Bool} {i : Nat} (hi : i < L.length) : (L.take (i + 1)).all f = ((L.take i).all f && f L[i]) := by
  rw [List.take_succ_eq_append_getElem hi, List.all_append]; simp
theorem zHb {w0 w : World} {B M1 F : List (Nat × Obj)} {x y z : Nat × Obj} (h : St w0 w (B ++ ([x] ++ (M1 ++ (y :: z :: F))))) : St w0 w (B ++ F) := by
  have e : B ++ ([x] ++ (M1 ++ (y :: z :: F))) = B ++ (([x] ++ (M1 ++ [y, z])) ++ F) := by simp
  rw [e] at h
  exact (h.perm (zAa _ _ _)).drop
theorem tup2 {a b c d : Int} (h : a = b) (h2 : c = d) : Value.tuple #[.int .i64 a, .int .i64 c] = .tuple #[.int .i64 b, .int .i64 d] := by rw [h, h2]
theorem c18 {w0 w : World} {F : List (Nat × Obj)} (p : Port) (a : Option Addr) (c : Nat) (hl3 : p.farms.length ≤ 9223372036854775807) (hc : p.farms.length ≤ c) (ha : Sl w0 F a 6 (rows p.farms)) (hnm : ∀ f ∈ p.farms, f.name.size ≤ 9223372036854775807) (al : Option Addr) (cl : Nat) (l : List Int) (hll : l.length ≤ 9223372036854775807) (hl : Sl w0 F al 1 (l.map fun x => [Value.int .i64 x])) (hs : St w0 w F) :
  Con Tryz.prog 18 [.agg (p.cells a c).toArray, .slice al l.length cl] w fun v w' => v = .tuple #[.int .i64 (vainR p l), .int .i64 (enterErr p l)] ∧ St w0 w' F := by
  refine zAu (n := 22) func18 rfl rfl (zNl rfl) ?_
  refine zAg (fun K2 g9 => (zAc (zCj (v := .agg #[.int _ _, .int _ _, .int _ _, .slice _ _ _]) (cs := [_,_,_,_]) zAb rfl rfl rfl hs (fun b3 w4 g6 => ?_))))
  refine zBj rfl rfl (zBj rfl rfl (zAe (zAd (g9 _ _ (zAg (fun K7 g7 => (zAc (w_p (zA9 (vs := [_,_,_,_]) isAgg26 sizeOf26 g6 rfl rfl (zAl (i := 0) (vs := [_,_,_,_]) rfl rfl)) rfl ?_))))))))
  refine w_p (zAi (v := .slice _ _ _) rfl rfl) rfl (zAr zAb call36 rfl rfl rfl rfl (c36 p _ _ (by omega) (by omega) ha.cons hnm _ _ _ (by omega) hl.cons g6) ?_)
  rintro _ w9 (⟨hee, rfl, g0⟩ | ⟨hee, m, pb, rfl, g0⟩)
  ·
   refine w_p (zAi (v := .tuple _) rfl rfl) rfl (w_p (zAh (v := .pointer _) rfl rfl rfl) rfl (w_p (zAh (v := (ia _)) rfl rfl rfl) rfl (w_p (zAh (v := .int _ _) rfl rfl rfl) rfl ?_)))
   refine zA0 (cs := iv [0,0,0]) zAb zeroValue85 rfl g0 (fun gi gj ga => ?_)
   refine w_p (zAo (v := .pointer _) rfl rfl) rfl (zB6 (i := 0) (l := _) zAb sizeOf85 (by first | omega | rfl | (simp only [zCh, zL] <;> omega)) rfl rfl rfl rfl rfl ga rfl (by first | omega | rfl | (simp only [zCh, zL] <;> omega)) (fun gk gb => ?_))
   refine zBs rfl rfl (zAe (zAd (g7 _ _ (zAg (fun gl gm => (zAg (fun gn gc => (zAc (zBe rfl rfl (w_p (zCv rfl rfl rfl rfl) rfl (zAe (zAd (gc _ _ (zA1 rfl rfl (fun g3 => ?_) (fun g3 => ?_)))))))))))))))
   ·
    try simp only [zS] at g3
    refine zAg (fun go gd => (zAc (zBe rfl rfl (zBj rfl rfl (zBs rfl rfl (zAe (zAd (gd _ _ (zA7 (zAm (zBa (l := [.tmp 4, .tmp 5]) (vs := [_,_]) rfl ⟨⟨rfl, (rfl : _ = Value.int _ _)⟩, ⟨rfl, (rfl : _ = Value.int _ _)⟩, trivial⟩ ?_)))))))))))
    first
      | contradiction
      | (refine ⟨tup2 ?_ ?_, gb.tail.tail⟩ <;> simp only [vainR, hee, if_true, if_false] <;> first | rfl | exact vain_pad (zC3 hee).2.1 (check_ok (zC3 hee).1).len)
   try simp only [zS] at g3
   all_goals exact absurd (by assumption) hee
  refine w_p (zAi (v := .tuple _) rfl rfl) rfl (w_p (zAh (v := .pointer _) rfl rfl rfl) rfl (w_p (zAh (v := (ia _)) rfl rfl rfl) rfl (w_p (zAh (v := .int _ _) rfl rfl rfl) rfl ?_)))
  refine zA0 (cs := iv [0,0,0]) zAb zeroValue85 rfl g0 (fun gp gq ge => ?_)
  refine w_p (zAo (v := .pointer _) rfl rfl) rfl (zB6 (i := 0) (l := _) zAb sizeOf85 (by first | omega | rfl | (simp only [zCh, zL] <;> omega)) rfl rfl rfl rfl rfl ge rfl (by first | omega | rfl | (simp only [zCh, zL] <;> omega)) (fun gr g8 => ?_))
  refine zBs rfl rfl (zAe (zAd (g7 _ _ (zAg (fun gt gf => (zAg (fun gu gg => (zAc (zBe rfl rfl (w_p (zCv rfl rfl rfl rfl) rfl (zAe (zAd (gg _ _ (zA1 rfl rfl (fun g4 => ?_) (fun g4 => ?_)))))))))))))))
  ·
   try simp only [zS] at g4
   all_goals contradiction
  try simp only [zS] at g4
  refine zAx (zAd (gf _ _ (zAg (fun gv gh => (zAc (w_p (zAi (v := .pointer _) rfl rfl) rfl (w_p (zBz (i := 0) isAgg85 sizeOf85 (by first | omega | rfl | (simp only [zCh, zL] <;> omega)) g8 rfl rfl rfl) rfl ?_)))))))
  refine zAr zAb call44 rfl rfl rfl rfl (c44 (X := [_]) (M := [_]) p _ c m pb (zAl (i := 0) (vs := [_,_,_,_,_]) rfl rfl) ha.cons.cons (check_ok (zC3 hee).1) (pad l) (zCh l) (pad_in hee) (zEg _ _ _) g8) ?_
  rintro _ gw ⟨rfl, M1, gx, g5⟩
  replace g5 := (show St _ _ (_ :: M1 ++ (_ :: _ :: F)) from g5)
  refine zBs rfl rfl (zBj rfl rfl (zAe (zAd (gh _ _ (zA7 (zBa (l := [.tmp 4, .tmp 5]) (vs := [_,_]) rfl ⟨⟨rfl, (rfl : _ = Value.int _ _)⟩, ⟨rfl, (rfl : _ = Value.int _ _)⟩, trivial⟩ ?_))))))
  first
    | contradiction
    | (refine ⟨tup2 ?_ ?_, g5.tail.drop.tail.tail⟩ <;> simp only [vainR, hee, if_true, if_false] <;> first | rfl | exact vain_pad (zC3 hee).2.1 (check_ok (zC3 hee).1).len)

theorem c17 {w0 w : World} {F : List (Nat × Obj)} (p : Port) (a : Option Addr) (c : Nat) (hl3 : p.farms.length ≤ 9223372036854775807) (hc : p.farms.length ≤ c) (ha : Sl w0 F a 6 (rows p.farms)) (hnm : ∀ f ∈ p.farms, f.name.size ≤ 9223372036854775807) (al : Option Addr) (cl : Nat) (l : List Int) (hll : l.length ≤ 9223372036854775807) (hl : Sl w0 F al 1 (l.map fun x => [Value.int .i64 x])) (hs : St w0 w F) :
  Con Tryz.prog 17 [.agg (p.cells a c).toArray, .slice al l.length cl] w fun v w' => v = .tuple #[.int .i64 (fullR p l), .int .i64 (enterErr p l)] ∧ St w0 w' F := by
  refine zAu (n := 52) func17 rfl rfl (zNl rfl) ?_
  refine zAg (fun K2 gl => (zAc (zCj (v := .agg #[.int _ _, .int _ _, .int _ _, .slice _ _ _]) (cs := [_,_,_,_]) zAb rfl rfl rfl hs (fun b3 w4 gg => ?_))))
  refine zBj rfl rfl (zBj rfl rfl (zAe (zAd (gl _ _ (zAg (fun K7 gh => (zAc (w_p (zA9 (vs := [_,_,_,_]) isAgg26 sizeOf26 gg rfl rfl (zAl (i := 0) (vs := [_,_,_,_]) rfl rfl)) rfl ?_))))))))
  refine w_p (zAi (v := .slice _ _ _) rfl rfl) rfl (zAr zAb call36 rfl rfl rfl rfl (c36 p _ _ (by omega) (by omega) ha.cons hnm _ _ _ (by omega) hl.cons gg) ?_)
  rintro _ w9 (⟨hee, rfl, gf⟩ | ⟨hee, m, pb, rfl, gf⟩)
  ·
   refine w_p (zAi (v := .tuple _) rfl rfl) rfl (w_p (zAh (v := .pointer _) rfl rfl rfl) rfl (w_p (zAh (v := (ia _)) rfl rfl rfl) rfl (w_p (zAh (v := .int _ _) rfl rfl rfl) rfl ?_)))
   refine zA0 (cs := iv [0,0,0]) zAb zeroValue85 rfl gf (fun gH gI gm => ?_)
   refine w_p (zAo (v := .pointer _) rfl rfl) rfl (zB6 (i := 0) (l := _) zAb sizeOf85 (by first | omega | rfl | (simp only [zCh, zL] <;> omega)) rfl rfl rfl rfl rfl gm rfl (by first | omega | rfl | (simp only [zCh, zL] <;> omega)) (fun gJ gi => ?_))
   refine zBs rfl rfl (zAe (zAd (gh _ _ (zAg (fun gK gL => (zAg (fun gM gn => (zAc (zBe rfl rfl (w_p (zCv rfl rfl rfl rfl) rfl (zAe (zAd (gn _ _ (zA1 rfl rfl (fun gc => ?_) (fun gc => ?_)))))))))))))))
   ·
    try simp only [zS] at gc
    refine zAg (fun gN go => (zAc (zBe rfl rfl (zBj rfl rfl (zBs rfl rfl (zAe (zAd (go _ _ (zA7 (zAm (zBa (l := [.tmp 4, .tmp 5]) (vs := [_,_]) rfl ⟨⟨rfl, (rfl : _ = Value.int _ _)⟩, ⟨rfl, (rfl : _ = Value.int _ _)⟩, trivial⟩ ?_)))))))))))
    first
      | contradiction
      | (refine ⟨tup2 ?_ ?_, gi.tail.tail⟩ <;> simp only [fullR, hee, if_true, if_false]; done)
      | (rw [List.take_of_length_le (by omega), ← zF6] at g4
         rw [List.take_of_length_le (by omega), ← zFj] at g5
         refine ⟨tup2 ?_ ?_, ((show St w0 _ ([_] ++ (M1 ++ (_ :: _ :: F))) from St.cast hz gi).drop.drop.tail.tail)⟩ <;> simp only [fullR, hee, if_true, if_false]
         rw [← zIn (zC3 hee).2.1 hok.len]
         unfold does
         rw [← g4, ← g5]
         simp [gc])
   try simp only [zS] at gc
   all_goals exact absurd (by assumption) hee
  refine w_p (zAi (v := .tuple _) rfl rfl) rfl (w_p (zAh (v := .pointer _) rfl rfl rfl) rfl (w_p (zAh (v := (ia _)) rfl rfl rfl) rfl (w_p (zAh (v := .int _ _) rfl rfl rfl) rfl ?_)))
  refine zA0 (cs := iv [0,0,0]) zAb zeroValue85 rfl gf (fun gO gP gp => ?_)
  refine w_p (zAo (v := .pointer _) rfl rfl) rfl (zB6 (i := 0) (l := _) zAb sizeOf85 (by first | omega | rfl | (simp only [zCh, zL] <;> omega)) rfl rfl rfl rfl rfl gp rfl (by first | omega | rfl | (simp only [zCh, zL] <;> omega)) (fun gQ gj => ?_))
  refine zBs rfl rfl (zAe (zAd (gh _ _ (zAg (fun gR gq => (zAg (fun gS gr => (zAc (zBe rfl rfl (w_p (zCv rfl rfl rfl rfl) rfl (zAe (zAd (gr _ _ (zA1 rfl rfl (fun g0 => ?_) (fun g0 => ?_)))))))))))))))
  ·
   try simp only [zS] at g0
   all_goals contradiction
  try simp only [zS] at g0
  refine zAx (zAd (gq _ _ (zAg (fun gT gt => (zAc (zBj rfl rfl (zBj rfl rfl (zAe (zAd (gt _ _ (zAg (fun gU gu => (zAg (fun gV gv => (zAc (w_p (zAi (v := .pointer _) rfl rfl) rfl ?_))))))))))))))))
  refine w_p (zBz (i := 0) isAgg85 sizeOf85 (by first | omega | rfl | (simp only [zCh, zL] <;> omega)) gj rfl rfl rfl) rfl ?_
  refine zAr zAb call37 rfl rfl rfl rfl (zF5 (X := [_]) (M := [_]) p _ c m pb (zAl (i := 0) (vs := [_,_,_,_,_]) rfl rfl) ha.cons.cons (check_ok (zC3 hee).1) (pad l) (zCh l) (pad_in hee) (zEg _ _ _) gj) ?_
  rintro _ gW ⟨Z, M1, al2, cl2, rfl, gX, hz, hsl, gw⟩
  have hb2 : Ats w0 Z b3 0 (p.cells a c) := (zAl (w0 := w0) (L := (pb, blk 128 [.int .i64 p.hold, .int .i64 p.clo, .int .i64 p.chi, .slice a p.farms.length c, .map (some m)]) :: (b3, blk 26 (p.cells a c)) :: F) (i := 1) (vs := p.cells a c) rfl rfl).mono fun w h => (show St w0 w ([_] ++ (M1 ++ (_ :: _ :: F))) from St.cast hz h).drop.drop
  have hlo := zD4 p (pad l)
  have hok := check_ok (zC3 hee).1
  have hcome := hok.come
  refine w_p (zBo underlying88 rfl rfl) rfl (w_p (zAi (v := _) rfl rfl) rfl (zAe (zAd (gv _ _ (zA8 ?_)))))
  refine zCd [9,10,12,27,28,29,30,31,32,33,34,35,36,37,38,39,40,41,42,43,44,45,46,47] [9,10,27] (fun k vs w => ∃ (i : Nat) (s1 s2 : Bool), vs = [.bool s1, .bool s2, .int .i64 i] ∧ s1 = ((loads p (pad l)).take i).all (fun x => decide (p.hold ≤ x.least)) ∧ s2 = ((loads p (pad l)).take i).all (fun x => decide (x.most < p.hold)) ∧ i ≤ (loads p (pad l)).length ∧ k = (loads p (pad l)).length - i ∧ St w0 w Z) ((loads p (pad l)).length) ?_ ?_
  ·
   exact ⟨0, true, true, rfl, rfl, rfl, by omega, by omega, gw⟩
  intro k vs μ gY hI gZ gd
  obtain ⟨i, s1, s2, rfl, g4, g5, hia, rfl, hs⟩ := hI
  refine zAg (fun hD gx => (zAc (w_p (zCl rfl rfl rfl rfl) rfl (zAe (zAd (gx _ _ (zAg (fun hG gy => (zA1 rfl rfl (fun g3 => ?_) (fun g3 => ?_))))))))))
  ·
   try simp only [zS] at g3
   refine zAx (zAd (gy _ _ (zAg (fun hH ge => (zA8 ?_)))))
   refine zAg (fun hN gz => ?_)
   have hx2 : i < (loads p (pad l)).length := by omega
   obtain ⟨bx, ox, rfl, hx⟩ := sl_load hsl hx2
   refine zAc (w_p (zBk underlying88 sizeOf91 rfl rfl rfl rfl (i := _) rfl (by omega)) rfl (w_p (zA9 (vs := [_,_,_]) isAgg91 sizeOf91 hs rfl rfl hx) rfl (zA0 (cs := [_,_,_]) zAb zeroValue91 rfl hs (fun hO hP gA => ?_))))
   refine zAs (i := 0) (v := .agg #[.int _ _, .int _ _, .int _ _]) (vs := [_,_,_]) zAb sizeOf91 rfl rfl rfl rfl rfl (by simp [Value.oneCell']) gA rfl (zNl rfl) (fun hX g7 => ?_)
   refine zAe (zAd (gz _ _ (zAg (fun hY gk => (zAc (w_p (zAi (v := .bool _) rfl rfl) rfl (w_p (zAi (v := .bool _) rfl rfl) rfl (zBp (fun g6 => ?_) (fun g6 => ?_)))))))))
   ·
    try simp only [zS] at g6
    refine w_y rfl rfl rfl (zAf (o := 0) (i := 0) underlying91 rfl sizeOf3 rfl rfl rfl) rfl ?_
    refine w_y rfl rfl rfl (zAk isAgg3 g7 rfl rfl (zAl (i := 0) (vs := [_]) rfl rfl)) rfl ?_
    refine w_y rfl rfl rfl (zAf (o := 0) (i := 0) underlying26 rfl sizeOf3 rfl rfl rfl) rfl ?_
    refine w_y rfl rfl rfl (zAk isAgg3 g7.tail rfl rfl (show Ats _ _ _ _ [_] from Ats.part hb2 0 1)) rfl ?_
    refine w_y rfl rfl rfl (zHh rfl rfl rfl rfl) rfl ?_
    refine w_p (zAv (v := .bool _) rfl rfl rfl rfl) rfl (w_p (zAo (v := .bool _) rfl rfl) rfl (zAe (zAd (gk _ _ (zAc (w_p (zAi (v := .bool _) rfl rfl) rfl ?_))))))
    refine w_p (zAi (v := .bool _) rfl rfl) rfl (zBp (fun g8 => ?_) (fun g8 => ?_))
    ·
     try simp only [zS] at g8
     refine w_y rfl rfl rfl (zAf (o := 1) (i := 1) underlying91 rfl sizeOf3 rfl rfl rfl) rfl ?_
     refine w_y rfl rfl rfl (zAk isAgg3 g7 rfl rfl (zAl (i := 0) (vs := [_]) rfl rfl)) rfl ?_
     refine w_y rfl rfl rfl (zAf (o := 0) (i := 0) underlying26 rfl sizeOf3 rfl rfl rfl) rfl ?_
     refine w_y rfl rfl rfl (zAk isAgg3 g7.tail rfl rfl (show Ats _ _ _ _ [_] from Ats.part hb2 0 1)) rfl ?_
     refine w_y rfl rfl rfl (zCl rfl rfl rfl rfl) rfl ?_
     refine w_p (zAv (v := .bool _) rfl rfl rfl rfl) rfl (w_p (zAo (v := .bool _) rfl rfl) rfl (zAe (zAn (zAd (ge _ _ (zAc (w_p (zBq rfl rfl rfl rfl (by omega) (by omega)) rfl ?_)))))))
     refine zBe rfl rfl (zAe (zAd (gd _ _ (nxI ((loads p (pad l)).length - (i + 1)) (by omega) ?_))))
     exact ⟨i + 1, _,_, rfl, (by rw [zC9 hx2, ← g4]; simp [g0, g3, g6, g8]), (by rw [zC9 hx2, ← g5]; simp [g0, g3, g6, g8]), by omega, rfl, g7.tail⟩
    try simp only [zS] at g8
    refine zAj rfl rfl rfl ?_
    refine zAj rfl rfl rfl ?_
    refine zAj rfl rfl rfl ?_
    refine zAj rfl rfl rfl ?_
    refine zAj rfl rfl rfl ?_
    refine w_p (zBg (v := _) rfl rfl rfl rfl) rfl (w_p (zAo (v := .bool _) rfl rfl) rfl (zAe (zAn (zAd (ge _ _ (zAc (w_p (zBq rfl rfl rfl rfl (by omega) (by omega)) rfl ?_)))))))
    refine zBe rfl rfl (zAe (zAd (gd _ _ (nxI ((loads p (pad l)).length - (i + 1)) (by omega) ?_))))
    exact ⟨i + 1, _,_, rfl, (by rw [zC9 hx2, ← g4]; simp [g0, g3, g6, g8]), (by rw [zC9 hx2, ← g5]; simp [g0, g3, g6, g8]), by omega, rfl, g7.tail⟩
   try simp only [zS] at g6
   refine zAj rfl rfl rfl ?_
   refine zAj rfl rfl rfl ?_
   refine zAj rfl rfl rfl ?_
   refine zAj rfl rfl rfl ?_
   refine zAj rfl rfl rfl ?_
   refine w_p (zBg (v := _) rfl rfl rfl rfl) rfl (w_p (zAo (v := .bool _) rfl rfl) rfl (zAe (zAd (gk _ _ (zAc (w_p (zAi (v := .bool _) rfl rfl) rfl ?_))))))
   refine w_p (zAi (v := .bool _) rfl rfl) rfl (zBp (fun g9 => ?_) (fun g9 => ?_))
   ·
    try simp only [zS] at g9
    refine w_y rfl rfl rfl (zAf (o := 1) (i := 1) underlying91 rfl sizeOf3 rfl rfl rfl) rfl ?_
    refine w_y rfl rfl rfl (zAk isAgg3 g7 rfl rfl (zAl (i := 0) (vs := [_]) rfl rfl)) rfl ?_
    refine w_y rfl rfl rfl (zAf (o := 0) (i := 0) underlying26 rfl sizeOf3 rfl rfl rfl) rfl ?_
    refine w_y rfl rfl rfl (zAk isAgg3 g7.tail rfl rfl (show Ats _ _ _ _ [_] from Ats.part hb2 0 1)) rfl ?_
    refine w_y rfl rfl rfl (zCl rfl rfl rfl rfl) rfl ?_
    refine w_p (zAv (v := .bool _) rfl rfl rfl rfl) rfl (w_p (zAo (v := .bool _) rfl rfl) rfl (zAe (zAn (zAd (ge _ _ (zAc (w_p (zBq rfl rfl rfl rfl (by omega) (by omega)) rfl ?_)))))))
    refine zBe rfl rfl (zAe (zAd (gd _ _ (nxI ((loads p (pad l)).length - (i + 1)) (by omega) ?_))))
    exact ⟨i + 1, _,_, rfl, (by rw [zC9 hx2, ← g4]; simp [g0, g3, g6, g9]), (by rw [zC9 hx2, ← g5]; simp [g0, g3, g6, g9]), by omega, rfl, g7.tail⟩
   try simp only [zS] at g9
   refine zAj rfl rfl rfl ?_
   refine zAj rfl rfl rfl ?_
   refine zAj rfl rfl rfl ?_
   refine zAj rfl rfl rfl ?_
   refine zAj rfl rfl rfl ?_
   refine w_p (zBg (v := _) rfl rfl rfl rfl) rfl (w_p (zAo (v := .bool _) rfl rfl) rfl (zAe (zAn (zAd (ge _ _ (zAc (w_p (zBq rfl rfl rfl rfl (by omega) (by omega)) rfl ?_)))))))
   refine zBe rfl rfl (zAe (zAd (gd _ _ (nxI ((loads p (pad l)).length - (i + 1)) (by omega) ?_))))
   exact ⟨i + 1, _,_, rfl, (by rw [zC9 hx2, ← g4]; simp [g0, g3, g6, g9]), (by rw [zC9 hx2, ← g5]; simp [g0, g3, g6, g9]), by omega, rfl, g7.tail⟩
  try simp only [zS] at g3
  refine zBy (zAq (zAq (zBc (zAd (gu _ _ (zAg (fun j0 gB => (zA8 ?_))))))))
  refine zAg (fun j1 gC => (zAc (w_p (zAi (v := .bool _) rfl rfl) rfl (w_p (zAo (v := .bool _) rfl rfl) rfl (zAe (zAd (gC _ _ (zA1 rfl rfl (fun ga => ?_) (fun ga => ?_)))))))))
  ·
   try simp only [zS] at ga
   refine zAg (fun j2 gD => (zAc (zBj rfl rfl (zBj rfl rfl (zAe (zAd (gD _ _ (zA7 (zAy (zAm (zBa (l := [.tmp 4, .tmp 5]) (vs := [_,_]) rfl ⟨⟨rfl, (rfl : _ = Value.int _ _)⟩, ⟨rfl, (rfl : _ = Value.int _ _)⟩, trivial⟩ ?_)))))))))))
   first
     | contradiction
     | (refine ⟨tup2 ?_ ?_, hs⟩ <;> simp only [fullR, hee, if_true, if_false]; done)
     | (rw [List.take_of_length_le (by omega), ← zF6] at g4
        rw [List.take_of_length_le (by omega), ← zFj] at g5
        refine ⟨tup2 ?_ ?_, ((show St w0 _ ([_] ++ (M1 ++ (_ :: _ :: F))) from St.cast hz hs).drop.drop.tail.tail)⟩ <;> simp only [fullR, hee, if_true, if_false]
        rw [← zIn (zC3 hee).2.1 hok.len]
        unfold does
        rw [← g4, ← g5]
        simp [g0, g3, ga])
  try simp only [zS] at ga
  refine zAg (fun j3 gE => (zAc (w_p (zAi (v := .bool _) rfl rfl) rfl (w_p (zAo (v := .bool _) rfl rfl) rfl (zAe (zAd (gE _ _ (zA1 rfl rfl (fun gb => ?_) (fun gb => ?_)))))))))
  ·
   try simp only [zS] at gb
   refine zAg (fun j4 gF => (zAc (zBj rfl rfl (zBj rfl rfl (zAe (zAd (gF _ _ (zA7 (zAy (zAm (zBa (l := [.tmp 4, .tmp 5]) (vs := [_,_]) rfl ⟨⟨rfl, (rfl : _ = Value.int _ _)⟩, ⟨rfl, (rfl : _ = Value.int _ _)⟩, trivial⟩ ?_)))))))))))
   first
     | contradiction
     | (refine ⟨tup2 ?_ ?_, hs⟩ <;> simp only [fullR, hee, if_true, if_false]; done)
     | (rw [List.take_of_length_le (by omega), ← zF6] at g4
        rw [List.take_of_length_le (by omega), ← zFj] at g5
        refine ⟨tup2 ?_ ?_, ((show St w0 _ ([_] ++ (M1 ++ (_ :: _ :: F))) from St.cast hz hs).drop.drop.tail.tail)⟩ <;> simp only [fullR, hee, if_true, if_false]
        rw [← zIn (zC3 hee).2.1 hok.len]
        unfold does
        rw [← g4, ← g5]
        simp [g0, g3, ga, gb])
  try simp only [zS] at gb
  refine zAx (zAn (zAd (gB _ _ (zAg (fun j5 gG => (zAc (zBj rfl rfl (zBj rfl rfl (zAe (zAd (gG _ _ (zA7 (zBa (l := [.tmp 4, .tmp 5]) (vs := [_,_]) rfl ⟨⟨rfl, (rfl : _ = Value.int _ _)⟩, ⟨rfl, (rfl : _ = Value.int _ _)⟩, trivial⟩ ?_)))))))))))))
  first
    | contradiction
    | (refine ⟨tup2 ?_ ?_, hs⟩ <;> simp only [fullR, hee, if_true, if_false]; done)
    | (rw [List.take_of_length_le (by omega), ← zF6] at g4
       rw [List.take_of_length_le (by omega), ← zFj] at g5
       refine ⟨tup2 ?_ ?_, ((show St w0 _ ([_] ++ (M1 ++ (_ :: _ :: F))) from St.cast hz hs).drop.drop.tail.tail)⟩ <;> simp only [fullR, hee, if_true, if_false]
       rw [← zIn (zC3 hee).2.1 hok.len]
       unfold does
       rw [← g4, ← g5]
       simp [g0, g3, ga, gb])

abbrev qcells (l : List Load) : List (List Value) := l.map fun x => [Value.int .i64 x.least, .int .i64 x.most]
theorem qcells_succ {l : List Load} {i : Nat} (hi : i < l.length) : (qcells (l.take i)).flatten ++ [[Value.int .i64 l[i].least, .int .i64 l[i].most]].flatten = (qcells (l.take (i + 1))).flatten := by
  rw [List.take_succ_eq_append_getElem hi]; simp only [qcells, List.map_append, List.map_cons, List.map_nil, List.flatten_append]
theorem q_none {p : Port} {l : List Int} (h : ¬ enterErr p l = 0) : quayR p l = [] := by unfold quayR; rw [if_neg h]
theorem zH2 {p : Port} {l : List Int} (h : enterErr p l = 0) : qcells (loads p (pad l)) = sprow (quayR p l) := by
  unfold quayR; rw [if_pos h, loads_pad (zC3 h).2.1 (check_ok (zC3 h).1).len]; simp [qcells, quay]
theorem c9 {w0 w : World} {F : List (Nat × Obj)} (p : Port) (a : Option Addr) (c : Nat) (hl3 : p.farms.length ≤ 9223372036854775807) (hc : p.farms.length ≤ c) (ha : Sl w0 F a 6 (rows p.farms)) (hnm : ∀ f ∈ p.farms, f.name.size ≤ 9223372036854775807) (al : Option Addr) (cl : Nat) (l : List Int) (hll : l.length ≤ 9223372036854775807) (hl : Sl w0 F al 1 (l.map fun x => [Value.int .i64 x])) (hs : St w0 w F) :
  Con Tryz.prog 9 [.agg (p.cells a c).toArray, .slice al l.length cl] w fun v w' => ∃ B aq cq, v = .tuple #[.slice aq (quayR p l).length cq, .int .i64 (enterErr p l)] ∧ Sl w0 (B ++ F) aq 2 (sprow (quayR p l)) ∧ St w0 w' (B ++ F) := by
  refine zAu (n := 38) func9 rfl rfl (zNl rfl) ?_
  refine zAg (fun K2 gc => (zAc (zCj (v := .agg #[.int _ _, .int _ _, .int _ _, .slice _ _ _]) (cs := [_,_,_,_]) zAb rfl rfl rfl hs (fun b3 w4 g8 => ?_))))
  refine zBj rfl rfl (zBj rfl rfl (zAe (zAd (gc _ _ (zAg (fun K7 g9 => (zAc (w_p (zA9 (vs := [_,_,_,_]) isAgg26 sizeOf26 g8 rfl rfl (zAl (i := 0) (vs := [_,_,_,_]) rfl rfl)) rfl ?_))))))))
  refine w_p (zAi (v := .slice _ _ _) rfl rfl) rfl (zAr zAb call36 rfl rfl rfl rfl (c36 p _ _ (by omega) (by omega) ha.cons hnm _ _ _ (by omega) hl.cons g8) ?_)
  rintro _ w9 (⟨hee, rfl, g0⟩ | ⟨hee, m, pb, rfl, g0⟩)
  ·
   refine w_p (zAi (v := .tuple _) rfl rfl) rfl (w_p (zAh (v := .pointer _) rfl rfl rfl) rfl (w_p (zAh (v := (ia _)) rfl rfl rfl) rfl (w_p (zAh (v := .int _ _) rfl rfl rfl) rfl ?_)))
   refine zA0 (cs := iv [0,0,0]) zAb zeroValue85 rfl g0 (fun gy gz gd => ?_)
   refine w_p (zAo (v := .pointer _) rfl rfl) rfl (zB6 (i := 0) (l := _) zAb sizeOf85 (by first | omega | rfl | (simp only [zCh, zL] <;> omega)) rfl rfl rfl rfl rfl gd rfl (by first | omega | rfl | (simp only [zCh, zL] <;> omega)) (fun gA ga => ?_))
   refine zBs rfl rfl (zAe (zAd (g9 _ _ (zAg (fun gB gC => (zAg (fun gD ge => (zAc (zBe rfl rfl (w_p (zCv rfl rfl rfl rfl) rfl (zAe (zAd (ge _ _ (zA1 rfl rfl (fun g3 => ?_) (fun g3 => ?_)))))))))))))))
   ·
    try simp only [zS] at g3
    refine zAg (fun gE gf => (zAc (zBe rfl rfl (zBj rfl rfl (zBs rfl rfl (zAe (zAd (gf _ _ (zA7 (zAm (zBa (l := [.tmp 4, .tmp 5]) (vs := [_,_]) rfl ⟨⟨rfl, show _ = (.slice _ _ _ : Value) from rfl⟩, ⟨rfl, (rfl : _ = Value.int _ _)⟩, trivial⟩ ?_)))))))))))
    first
      | contradiction
      | (refine ⟨[], none, 0, ?_, ?_, ga.tail.tail⟩ <;> rw [q_none hee] <;> first | rfl | exact Sl.nil _ _)
      | (obtain ⟨aw, cw, rfl, hsw⟩ := hown.sl (w0 := w0) (rows := qcells (loads p (pad l))) (by intro row hr; obtain ⟨x, _, rfl⟩ := List.mem_map.1 hr; rfl) (by rw [List.length_map]; omega) (by rw [List.take_of_length_le (by omega)]) F
         rw [hee]
         rw [zH2 hee] at hsw
         rw [show (qcells (loads p (pad l))).length = (quayR p l).length from by rw [zH2 hee, List.length_map]]
         exact ⟨B, aw, cw, rfl, hsw, zHb (St.cast (congrArg (B ++ ·) hz) ga)⟩)
   try simp only [zS] at g3
   all_goals exact absurd (by assumption) hee
  refine w_p (zAi (v := .tuple _) rfl rfl) rfl (w_p (zAh (v := .pointer _) rfl rfl rfl) rfl (w_p (zAh (v := (ia _)) rfl rfl rfl) rfl (w_p (zAh (v := .int _ _) rfl rfl rfl) rfl ?_)))
  refine zA0 (cs := iv [0,0,0]) zAb zeroValue85 rfl g0 (fun gF gG gg => ?_)
  refine w_p (zAo (v := .pointer _) rfl rfl) rfl (zB6 (i := 0) (l := _) zAb sizeOf85 (by first | omega | rfl | (simp only [zCh, zL] <;> omega)) rfl rfl rfl rfl rfl gg rfl (by first | omega | rfl | (simp only [zCh, zL] <;> omega)) (fun gH gb => ?_))
  refine zBs rfl rfl (zAe (zAd (g9 _ _ (zAg (fun gI gh => (zAg (fun gJ gi => (zAc (zBe rfl rfl (w_p (zCv rfl rfl rfl rfl) rfl (zAe (zAd (gi _ _ (zA1 rfl rfl (fun g4 => ?_) (fun g4 => ?_)))))))))))))))
  ·
   try simp only [zS] at g4
   all_goals contradiction
  try simp only [zS] at g4
  refine zAx (zAd (gh _ _ (zAg (fun gK gj => (zAg (fun gL gk => (zAc (w_p (zAi (v := .pointer _) rfl rfl) rfl (w_p (zBz (i := 0) isAgg85 sizeOf85 (by first | omega | rfl | (simp only [zCh, zL] <;> omega)) gb rfl rfl rfl) rfl ?_)))))))))
  refine zAr zAb call37 rfl rfl rfl rfl (zF5 (X := [_]) (M := [_]) p _ c m pb (zAl (i := 0) (vs := [_,_,_,_,_]) rfl rfl) ha.cons.cons (check_ok (zC3 hee).1) (pad l) (zCh l) (pad_in hee) (zEg _ _ _) gb) ?_
  rintro _ gM ⟨Z, M1, al2, cl2, rfl, gN, hz, hsl, gl⟩
  have hlo := zD4 p (pad l)
  have hok := check_ok (zC3 hee).1
  have hcome := hok.come
  refine w_p (zBo underlying88 rfl rfl) rfl (w_p (zAi (v := _) rfl rfl) rfl (zAe (zAd (gk _ _ (zA8 ?_)))))
  refine zCd [4,9,24,25,26,27,28,29,30,31,32,33,34,35,36] [4,24] (fun k vs w => ∃ (i : Nat) (v : Value) (B : List (Nat × Obj)), vs = [v, .int .i64 i] ∧ i ≤ (loads p (pad l)).length ∧ k = (loads p (pad l)).length - i ∧ Rt.Own v 23 2 i (qcells ((loads p (pad l)).take i)).flatten B ∧ St w0 w (B ++ Z)) ((loads p (pad l)).length) ?_ ?_
  ·
   exact ⟨0, _, [], rfl, by omega, by omega, zE1 23 2, gl⟩
  intro k vs μ gO hI gP gm
  obtain ⟨i, v, B, rfl, hia, rfl, hown, hs⟩ := hI
  refine zAg (fun gQ gn => (zAc (w_p (zCl rfl rfl rfl rfl) rfl (zAe (zAd (gn _ _ (zAg (fun gR go => (zA1 rfl rfl (fun g5 => ?_) (fun g5 => ?_))))))))))
  ·
   try simp only [zS] at g5
   refine zAx (zAd (go _ _ (zAg (fun gS gp => (zA8 ?_)))))
   refine zAg (fun gT gq => ?_)
   have hx2 : i < (loads p (pad l)).length := by omega
   obtain ⟨bx, ox, rfl, hx⟩ := sl_load hsl hx2
   refine zAc (w_p (zBk underlying88 sizeOf91 rfl rfl rfl rfl (i := _) rfl (by omega)) rfl (w_p (zA9 (vs := [_,_,_]) isAgg91 sizeOf91 hs.drop rfl rfl hx) rfl (zA0 (cs := [_,_,_]) zAb zeroValue91 rfl hs (fun gU gV gr => ?_))))
   refine zAs (i := 0) (v := .agg #[.int _ _, .int _ _, .int _ _]) (vs := [_,_,_]) zAb sizeOf91 rfl rfl rfl rfl rfl (by simp [Value.oneCell']) gr rfl (zNl rfl) (fun gW g6 => ?_)
   refine zAe (zAd (gq _ _ (zAc (w_p (zAi (v := v) rfl rfl) rfl (w_p (zAf (o := 0) (i := 0) underlying91 rfl sizeOf3 rfl rfl rfl) rfl (w_p (zAk isAgg3 g6 rfl rfl (zAl (i := 0) (vs := [_]) rfl rfl)) rfl ?_))))))
   refine w_p (zAf (o := 1) (i := 1) underlying91 rfl sizeOf3 rfl rfl rfl) rfl (w_p (zAk isAgg3 g6 rfl rfl (zAl (i := 0) (vs := [_]) rfl rfl)) rfl (w_p (zBx (ps := [(0, _),(1, _)]) (pv := [(0, .int _ _),(1, .int _ _)]) rfl rfl (fun w => Try_CJ_fb5 _ _ w)) rfl ?_))
   refine zA3 (ps := [(0, _)]) (pv := [(0, .agg #[.int _ _, .int _ _])]) (cs := [_,_]) zAb rfl rfl (fun w => Try_CJ_fb6 _ _ w) g6 (fun gX gY gt => ?_)
   refine zEf (X := (_ :: _ :: [])) (B := B) (rows := [[_,_]]) (sz := 2) (bytes := 16) zAb underlying36 Try_info23 rfl rfl rfl rfl rfl rfl rfl rfl rfl gt hown (zBd (i := 0) rfl (by simp) rfl) rfl (by simp) (by simp [Value.oneCell']) (by simp only [maxLen]; omega) (by omega) (fun gu gZ gv gw g7 => ?_)
   replace g7 := (show St _ _ (_ :: _ :: gv ++ (Z)) from g7)
   refine w_p (zAo (v := gu) rfl rfl) rfl (zAe (zAn (zAd (gp _ _ (zAc (w_p (zBq rfl rfl rfl rfl (by omega) (by omega)) rfl (zBe rfl rfl (zAe (zAd (gm _ _ (nxI ((loads p (pad l)).length - (i + 1)) (by omega) ?_)))))))))))
   exact ⟨i + 1, _,_, rfl, by omega, rfl, by rw [← qcells_succ hx2]; exact gw, g7.tail.tail⟩
  try simp only [zS] at g5
  refine zBy (zAq (zAq (zBc (zAd (gj _ _ (zAg (fun hD gx => (zAc (w_p (zAi (v := v) rfl rfl) rfl (w_p (zAo (v := v) rfl rfl) rfl ?_))))))))))
  refine zBj rfl rfl (zAe (zAd (gx _ _ (zA7 (zBa (l := [.tmp 4, .tmp 5]) (vs := [_,_]) rfl ⟨⟨rfl, show _ = (v : Value) from rfl⟩, ⟨rfl, (rfl : _ = Value.int _ _)⟩, trivial⟩ ?_)))))
  first
    | contradiction
    | (refine ⟨[], none, 0, ?_, ?_, hs.drop⟩ <;> rw [q_none hee] <;> first | rfl | exact Sl.nil _ _)
    | (obtain ⟨aw, cw, rfl, hsw⟩ := hown.sl (w0 := w0) (rows := qcells (loads p (pad l))) (by intro row hr; obtain ⟨x, _, rfl⟩ := List.mem_map.1 hr; rfl) (by rw [List.length_map]; omega) (by rw [List.take_of_length_le (by omega)]) F
       rw [hee]
       rw [zH2 hee] at hsw
       rw [show (qcells (loads p (pad l))).length = (quayR p l).length from by rw [zH2 hee, List.length_map]]
       exact ⟨B, aw, cw, rfl, hsw, zHb (St.cast (congrArg (B ++ ·) hz) hs)⟩)

end Go.Proofs.Cb
set_option maxRecDepth 20000
namespace Go.Proofs.Cb
open Go.Proofs.Tryz
open Go.Rt Go.Rt.Ca
attribute [local irreducible] WL WC Con Yd At Ats Sl Agree DW

def NextC (n below bp bl bla bY bb bn : Nat) (Ls : List (List Int)) (J : Nat → List (Nat × Obj) → Prop) (Js : List (Nat × Obj) → Prop) (yv : Value) (w0 : World) (F : List (Nat × Obj)) (rem : Nat) : Prop :=
  ∀ (d : Nat) (pre cur last : List Int) (i : Nat) (R : List (List Int)) (B X : List (Nat × Obj)) (w : World), d + rem = n → pre.length = d → cur.length = 3 → cur.take d = pre → (∀ j, n ≤ j → cur.getD j 0 = 0) → i ≤ Ls.length →
    Ls.drop i = (seg (dys below) rem pre).map pad ++ R → last.length = 3 → last ∉ Ls.drop i → J i B → St w0 w ((bn, blk 119 [.func (.func 80) #[] #[.pointer (some ⟨bp, 0, none⟩), .pointer (some ⟨bl, 0, none⟩), .pointer (some ⟨bla, 0, none⟩), .pointer (some ⟨bY, 0, none⟩), .pointer (some ⟨bb, 0, none⟩), .pointer (some ⟨bn, 0, none⟩)]]) :: (bla, blk 85 (iv last)) :: (bl, blk 85 (iv cur)) :: (bY, blk 139 [yv]) :: (X ++ (B ++ F))) →
    Con Tryz.prog 80 [.int .i64 (d : Int), .pointer (some ⟨bp, 0, none⟩), .pointer (some ⟨bl, 0, none⟩), .pointer (some ⟨bla, 0, none⟩), .pointer (some ⟨bY, 0, none⟩), .pointer (some ⟨bb, 0, none⟩), .pointer (some ⟨bn, 0, none⟩)] w fun v w' => ∃ (cur' last' : List Int) (B' : List (Nat × Obj)), cur'.length = 3 ∧ last'.length = 3 ∧ cur'.take d = pre ∧ (∀ j, n ≤ j → cur'.getD j 0 = 0) ∧ St w0 w' ((bn, blk 119 [.func (.func 80) #[] #[.pointer (some ⟨bp, 0, none⟩), .pointer (some ⟨bl, 0, none⟩), .pointer (some ⟨bla, 0, none⟩), .pointer (some ⟨bY, 0, none⟩), .pointer (some ⟨bb, 0, none⟩), .pointer (some ⟨bn, 0, none⟩)]]) :: (bla, blk 85 (iv last')) :: (bl, blk 85 (iv cur')) :: (bY, blk 139 [yv]) :: (X ++ (B' ++ F))) ∧
      ((v = .bool true ∧ ∃ i', i' ≤ Ls.length ∧ Ls.drop i' = R ∧ last' ∉ R ∧ J i' B') ∨ (v = .bool false ∧ Js B'))
theorem seg_more {Ls R : List (List Int)} {below q r i : Nat} {pre : List Int} (hq : q < below + 1) (h : Ls.drop i = (((dys below).drop q).flatMap fun x => seg (dys below) r (pre ++ [x])).map pad ++ R) :
    Ls.drop i = (seg (dys below) r (pre ++ [if q = below then -1 else (q : Int)])).map pad ++ ((((dys below).drop (q + 1)).flatMap fun x => seg (dys below) r (pre ++ [x])).map pad ++ R) := by
  rw [dys_drop hq, List.flatMap_cons, List.map_append, List.append_assoc] at h; exact h
theorem c80 {w0 : World} {F : List (Nat × Obj)} (p : Port) (a : Option Addr) (c m pb : Nat) (hp : Ats w0 F pb 0 [.int .i64 p.hold, .int .i64 p.clo, .int .i64 p.chi, .slice a p.farms.length c, .map (some m)]) (ha : Sl w0 F a 6 (rows p.farms)) (hok : p.Ok) (n below bp bl bla bY bb bn : Nat) (hbe : below ≤ 11) (h1 : Ats w0 F bp 0 [.pointer (some ⟨pb, 0, none⟩)]) (h5 : Ats w0 F bb 0 [.int .i64 (below : Int)]) (hn : n = p.farms.length) (Ls : List (List Int)) (hnd : Ls.Nodup) (J : Nat → List (Nat × Obj) → Prop) (Js : List (Nat × Obj) → Prop) (yv : Value) (hy : ∀ (i : Nat) (x : List Int) (R : List (List Int)) (B X : List (Nat × Obj)) (w : World), Ls.drop i = x :: R → J i B → St w0 w (X ++ (B ++ F)) → FCon Tryz.prog yv [ia x] w fun v w' => ∃ B', St w0 w' (X ++ (B' ++ F)) ∧ (v = .bool true ∧ J (i + 1) B' ∨ v = .bool false ∧ Js B')) (rem : Nat) (ih : ∀ r, rem = r + 1 → NextC n below bp bl bla bY bb bn Ls J Js yv w0 F r) : NextC n below bp bl bla bY bb bn Ls J Js yv w0 F rem := by
  intro d pre cur last i R B X w hdr hpl hcl hk hz hi hpos hll hlast hJ hs
  have hlen3 := hok.len
  have hcl3 := hcl
  refine zAu (n := 44) func80 rfl rfl (zNl rfl) ?_
  refine zAg (fun K2 gh => (zAc (zBj rfl rfl (zAe (zAd (gh _ _ (zAg (fun K4 gi => (zAg (fun K6 gj => (zAc (zBe rfl rfl (w_p (zAk isAgg83 hs.tail.tail.tail.tail.drop.drop rfl rfl h1) rfl ?_)))))))))))))
  refine w_p (zBn rfl rfl) rfl (w_p (zAf (o := 0) (i := 0) underlying128 rfl sizeOf26 rfl rfl rfl) rfl (w_p (zAf (o := 3) (i := 2) underlying26 rfl sizeOf24 rfl rfl rfl) rfl (w_p (zAk isAgg24 hs.tail.tail.tail.tail.drop.drop rfl rfl (show Ats _ _ _ _ [_] from Ats.part hp 3 1)) rfl ?_)))
  refine w_p (zBo underlying24 rfl rfl) rfl (w_p (zB3 rfl rfl rfl rfl) rfl (zAe (zAd (gj _ _ (zA1 rfl rfl (fun h7 => ?_) (fun h7 => ?_))))))
  ·
   try simp only [zS] at h7
   refine zAg (fun K9 gk => (zAg (fun gy gl => ?_)))
   have hr0 : rem = 0 := by omega
   subst hr0
   have hcur := cur_pad (n := d) hcl hpl (by omega) hk (by have hdn : d = n := (by omega); subst hdn; exact hz)
   simp only [seg, List.map_cons, List.map_nil, List.cons_append, List.nil_append, ← hcur] at hpos
   have hne : ¬ cur = last := fun e => hlast (by rw [hpos, ← e]; exact .head _)
   refine zAc (w_p (zBz (i := 2) isAgg85 sizeOf85 (by first | omega | rfl | (simp only [zL] <;> omega)) hs rfl rfl rfl) rfl ?_)
   refine w_p (zBz (i := 1) isAgg85 sizeOf85 (by first | omega | rfl | (simp only [zL] <;> omega)) hs rfl rfl rfl) rfl ?_
   refine w_p (zFe (l := _) (m := _) eqGuardType85 Try_flat85 (by first | omega | rfl | (simp only [zL] <;> omega)) (by first | omega | rfl | (simp only [zL] <;> omega)) rfl rfl rfl rfl rfl rfl) rfl ?_
   refine zAe (zAd (gl _ _ (zA1 rfl rfl (fun g6 => ?_) (fun g6 => ?_))))
   ·
    try simp only [zS] at g6
    exact absurd (by assumption) hne
   try simp only [zS] at g6
   refine zAx (zAd (gk _ _ (zAg (fun gz gm => (zAc (w_p (zBz (i := 2) isAgg85 sizeOf85 (by first | omega | rfl | (simp only [zL] <;> omega)) hs rfl rfl rfl) rfl ?_))))))
   refine zB6 (i := 1) (l := _) zAb sizeOf85 (by first | omega | rfl | (simp only [zL] <;> omega)) rfl rfl rfl rfl rfl hs rfl (by first | omega | rfl | (simp only [zL] <;> omega)) (fun gA g7 => ?_)
   refine zAe (zAd (gm _ _ (zAg (fun gB ga => (zAc (w_p (zAk isAgg139 g7 rfl rfl (zAl (i := 3) (vs := [_]) rfl rfl)) rfl (w_p (zBz (i := 2) isAgg85 sizeOf85 (by first | omega | rfl | (simp only [zL] <;> omega)) g7 rfl rfl rfl) rfl ?_)))))))
   refine zEc zAb rfl rfl rfl rfl (hy i _ R B (_ :: _ :: _ :: _ :: X) _ hpos hJ g7) ?_
   rintro _ gC ⟨B1, g0, (⟨rfl, hJ1⟩ | ⟨rfl, hJ1⟩)⟩
   ·
    replace g0 := (show St _ _ (_ :: _ :: _ :: _ :: X ++ (B1 ++ (F))) from g0)
    refine w_p (zAo (v := .bool _) rfl rfl) rfl (zAe (zAd (ga _ _ (zA7 (zAm (zBa (l := [.tmp 8]) (vs := [_]) rfl ⟨⟨rfl, (rfl : _ = Value.bool _)⟩, trivial⟩ ?_))))))
    first
      | exact ⟨cur, cur, B1, hcl, hcl, hk, hz, g0, .inl ⟨rfl, i + 1, zCm hpos, zCc hpos, zEn hnd hpos, hJ1⟩⟩
      | exact ⟨cur, cur, B1, hcl, hcl, hk, hz, g0, .inr ⟨rfl, hJ1⟩⟩
      | exact ⟨cur2, last2, B2, hc2, hl2, zB8 hk2 hpl, hz2, g0, .inr ⟨rfl, hJ2⟩⟩
      | exact ⟨cur, last, B, hcl, hll, hk, hz, g0, .inl ⟨rfl, i, hi, (by rw [hpos, show q = below + 1 from by omega, zE3]; rfl), (by rw [← show Ls.drop i = R from by rw [hpos, show q = below + 1 from by omega, zE3]; rfl]; exact hlast), hJ⟩⟩
   replace g0 := (show St _ _ (_ :: _ :: _ :: _ :: X ++ (B1 ++ (F))) from g0)
   refine w_p (zAo (v := .bool _) rfl rfl) rfl (zAe (zAd (ga _ _ (zA7 (zAm (zBa (l := [.tmp 8]) (vs := [_]) rfl ⟨⟨rfl, (rfl : _ = Value.bool _)⟩, trivial⟩ ?_))))))
   first
     | exact ⟨cur, cur, B1, hcl, hcl, hk, hz, g0, .inl ⟨rfl, i + 1, zCm hpos, zCc hpos, zEn hnd hpos, hJ1⟩⟩
     | exact ⟨cur, cur, B1, hcl, hcl, hk, hz, g0, .inr ⟨rfl, hJ1⟩⟩
     | exact ⟨cur2, last2, B2, hc2, hl2, zB8 hk2 hpl, hz2, g0, .inr ⟨rfl, hJ2⟩⟩
     | exact ⟨cur, last, B, hcl, hll, hk, hz, g0, .inl ⟨rfl, i, hi, (by rw [hpos, show q = below + 1 from by omega, zE3]; rfl), (by rw [← show Ls.drop i = R from by rw [hpos, show q = below + 1 from by omega, zE3]; rfl]; exact hlast), hJ⟩⟩
  try simp only [zS] at h7
  refine zAx (zAd (gi _ _ (zAg (fun gD gn => (zAg (fun gE go => ?_))))))
  obtain ⟨r, rfl⟩ : ∃ r, rem = r + 1 := ⟨rem - 1, by omega⟩
  have ih2 := ih r rfl
  simp only [seg] at hpos
  refine zAc (w_p (zAk isAgg3 hs.tail.tail.tail.tail.drop.drop rfl rfl h5) rfl (w_p (zBq rfl rfl rfl rfl (by omega) (by omega)) rfl (w_p (zAi (v := _) rfl rfl) rfl (zAe (zAd (go _ _ (zA8 ?_)))))))
  refine zCd [8,9,27,28,29,30,31,32,33,34,35,36,37,38,39,40,41,42,43] [27] (fun k vs w => ∃ (q : Nat) (cur last : List Int) (i : Nat) (B : List (Nat × Obj)), vs = [.int .i64 q] ∧ q ≤ below + 1 ∧ k = below + 1 - q ∧ cur.length = 3 ∧ last.length = 3 ∧ cur.take d = pre ∧ (∀ j, n ≤ j → cur.getD j 0 = 0) ∧ i ≤ Ls.length ∧ Ls.drop i = (((dys below).drop q).flatMap fun x => seg (dys below) r (pre ++ [x])).map pad ++ R ∧ last ∉ Ls.drop i ∧ J i B ∧ St w0 w ((bn, blk 119 [.func (.func 80) #[] #[.pointer (some ⟨bp, 0, none⟩), .pointer (some ⟨bl, 0, none⟩), .pointer (some ⟨bla, 0, none⟩), .pointer (some ⟨bY, 0, none⟩), .pointer (some ⟨bb, 0, none⟩), .pointer (some ⟨bn, 0, none⟩)]]) :: (bla, blk 85 (iv last)) :: (bl, blk 85 (iv cur)) :: (bY, blk 139 [yv]) :: (X ++ (B ++ F)))) (below + 1) ?_ ?_
  ·
   exact ⟨0, cur, last, i, B, rfl, by omega, by omega, hcl, hll, hk, hz, hi, hpos, hlast, hJ, hs⟩
  intro k vs μ gF hI gG gb
  clear hk hz hi hpos hll hlast hJ hs hcl hcl3
  obtain ⟨q, cur, last, i, B, rfl, hq, rfl, hcl, hll, hk, hz, hi, hpos, hlast, hJ, hs⟩ := hI
  have hcl3 := hcl
  refine zAg (fun gH gp => (zAc (w_p (zCl rfl rfl rfl rfl) rfl (zAe (zAd (gp _ _ (zAg (fun gI gq => (zA1 rfl rfl (fun g8 => ?_) (fun g8 => ?_))))))))))
  ·
   try simp only [zS] at g8
   refine zAx (zAd (gq _ _ (zAg (fun gJ gc => (zA8 ?_)))))
   refine zAg (fun gK gr => (zAc (zBe rfl rfl (zBs rfl rfl (zAe (zAd (gr _ _ (zAg (fun gL gd => (zAg (fun gM gt => (zAc (zBe rfl rfl (zBe rfl rfl ?_))))))))))))))
   refine w_p (zCb underlying85 sizeOf3 rfl rfl rfl rfl (i := d) (by first | rfl | omega) (by omega)) rfl ?_
   refine zDr (i := 2) (j := d) zAb sizeOf3 rfl rfl rfl rfl hs rfl (by first | omega | rfl | (simp only [zL] <;> omega)) (fun gN g5 => ?_)
   refine zAe (zAd (gt _ _ (zAg (fun gO gu => (zAc (zBe rfl rfl (w_p (zAk isAgg3 g5.tail.tail.tail.tail.drop.drop rfl rfl h5) rfl (w_p (zB3 rfl rfl rfl rfl) rfl (zAe (zAd (gu _ _ (zA1 rfl rfl (fun g9 => ?_) (fun g9 => ?_)))))))))))))
   ·
    try simp only [zS] at g9
    refine zAc (zBe rfl rfl (w_p (zCb underlying85 sizeOf3 rfl rfl rfl rfl (i := d) (by first | rfl | omega) (by omega)) rfl ?_))
    refine zDr (i := 2) (j := d) zAb sizeOf3 rfl rfl rfl rfl g5 rfl (by first | omega | rfl | (simp only [zL] <;> omega)) (fun gP ge => ?_)
    refine zAe (zAd (gd _ _ (zAg (fun gQ gf => (zAc ?_)))))
    first
      | have hdy : (if q = below then (-1 : Int) else (q : Int)) = -1 := if_pos (by omega)
      | have hdy : (if q = below then (-1 : Int) else (q : Int)) = (q : Int) := if_neg (by omega)
    refine w_p (zAk isAgg119 ge rfl rfl (zAl (i := 0) (vs := [_]) rfl rfl)) rfl (zBe rfl rfl (w_p (zBq rfl rfl rfl rfl (by omega) (by omega)) rfl (zAr zAb call80 rfl rfl rfl rfl (ih2 (d + 1) (pre ++ [if q = below then -1 else (q : Int)]) _ last i _ B X _ (by omega) (by simp; omega) (by first | omega | (simp only [List.length_set]; omega)) (by rw [hdy]; exact zC6 _ (by first | exact hk | exact set_keep _ hk) (by first | omega | (simp only [List.length_set]; omega))) (by first | exact zCw _ (by omega) (zCw _ (by omega) hz) | exact zCw _ (by omega) hz) hi (seg_more (by omega) hpos) hll hlast hJ ge) ?_)))
    rintro _ gR ⟨cur2, last2, B2, hc2, hl2, hk2, hz2, g3, (⟨rfl, i2, hi2, hp2, hn2, hJ2⟩ | ⟨rfl, hJ2⟩)⟩
    ·
     refine w_p (zDq rfl rfl) rfl (zAe (zAd (gf _ _ (zB7 rfl rfl ?_))))
     refine zAx (zAn (zAd (gc _ _ (zAc (w_p (zBq rfl rfl rfl rfl (by omega) (by omega)) rfl (zBe rfl rfl (zAe (zAd (gb _ _ (nxI (below + 1 - (q + 1)) (by omega) ?_))))))))))
     exact ⟨q + 1, cur2, last2, i2, B2, rfl, by omega, rfl, hc2, hl2, zB8 hk2 hpl, hz2, hi2, hp2, (by rw [hp2]; exact hn2), hJ2, g3⟩
    refine w_p (zDq rfl rfl) rfl (zAe (zAd (gf _ _ (zC0 rfl rfl ?_))))
    refine zAg (fun gS gv => (zAc (zBj rfl rfl (zAe (zAd (gv _ _ (zA7 (zAy (zAm (zAm (zAy (zAm (zBa (l := [.tmp 8]) (vs := [_]) rfl ⟨⟨rfl, (rfl : _ = Value.bool _)⟩, trivial⟩ ?_)))))))))))))
    first
      | exact ⟨cur, cur, B1, hcl, hcl, hk, hz, g3, .inl ⟨rfl, i + 1, zCm hpos, zCc hpos, zEn hnd hpos, hJ1⟩⟩
      | exact ⟨cur, cur, B1, hcl, hcl, hk, hz, g3, .inr ⟨rfl, hJ1⟩⟩
      | exact ⟨cur2, last2, B2, hc2, hl2, zB8 hk2 hpl, hz2, g3, .inr ⟨rfl, hJ2⟩⟩
      | exact ⟨cur, last, B, hcl, hll, hk, hz, g3, .inl ⟨rfl, i, hi, (by rw [hpos, show q = below + 1 from by omega, zE3]; rfl), (by rw [← show Ls.drop i = R from by rw [hpos, show q = below + 1 from by omega, zE3]; rfl]; exact hlast), hJ⟩⟩
   try simp only [zS] at g9
   refine zAx (zAd (gd _ _ (zAg (fun gT gg => (zAc ?_)))))
   first
     | have hdy : (if q = below then (-1 : Int) else (q : Int)) = -1 := if_pos (by omega)
     | have hdy : (if q = below then (-1 : Int) else (q : Int)) = (q : Int) := if_neg (by omega)
   refine w_p (zAk isAgg119 g5 rfl rfl (zAl (i := 0) (vs := [_]) rfl rfl)) rfl (zBe rfl rfl (w_p (zBq rfl rfl rfl rfl (by omega) (by omega)) rfl (zAr zAb call80 rfl rfl rfl rfl (ih2 (d + 1) (pre ++ [if q = below then -1 else (q : Int)]) _ last i _ B X _ (by omega) (by simp; omega) (by first | omega | (simp only [List.length_set]; omega)) (by rw [hdy]; exact zC6 _ (by first | exact hk | exact set_keep _ hk) (by first | omega | (simp only [List.length_set]; omega))) (by first | exact zCw _ (by omega) (zCw _ (by omega) hz) | exact zCw _ (by omega) hz) hi (seg_more (by omega) hpos) hll hlast hJ g5) ?_)))
   rintro _ gU ⟨cur2, last2, B2, hc2, hl2, hk2, hz2, g4, (⟨rfl, i2, hi2, hp2, hn2, hJ2⟩ | ⟨rfl, hJ2⟩)⟩
   ·
    refine w_p (zDq rfl rfl) rfl (zAe (zAd (gg _ _ (zB7 rfl rfl ?_))))
    refine zAx (zAn (zAd (gc _ _ (zAc (w_p (zBq rfl rfl rfl rfl (by omega) (by omega)) rfl (zBe rfl rfl (zAe (zAd (gb _ _ (nxI (below + 1 - (q + 1)) (by omega) ?_))))))))))
    exact ⟨q + 1, cur2, last2, i2, B2, rfl, by omega, rfl, hc2, hl2, zB8 hk2 hpl, hz2, hi2, hp2, (by rw [hp2]; exact hn2), hJ2, g4⟩
   refine w_p (zDq rfl rfl) rfl (zAe (zAd (gg _ _ (zC0 rfl rfl ?_))))
   refine zAg (fun gV gw => (zAc (zBj rfl rfl (zAe (zAd (gw _ _ (zA7 (zAy (zAm (zAm (zAy (zAm (zBa (l := [.tmp 8]) (vs := [_]) rfl ⟨⟨rfl, (rfl : _ = Value.bool _)⟩, trivial⟩ ?_)))))))))))))
   first
     | exact ⟨cur, cur, B1, hcl, hcl, hk, hz, g4, .inl ⟨rfl, i + 1, zCm hpos, zCc hpos, zEn hnd hpos, hJ1⟩⟩
     | exact ⟨cur, cur, B1, hcl, hcl, hk, hz, g4, .inr ⟨rfl, hJ1⟩⟩
     | exact ⟨cur2, last2, B2, hc2, hl2, zB8 hk2 hpl, hz2, g4, .inr ⟨rfl, hJ2⟩⟩
     | exact ⟨cur, last, B, hcl, hll, hk, hz, g4, .inl ⟨rfl, i, hi, (by rw [hpos, show q = below + 1 from by omega, zE3]; rfl), (by rw [← show Ls.drop i = R from by rw [hpos, show q = below + 1 from by omega, zE3]; rfl]; exact hlast), hJ⟩⟩
  try simp only [zS] at g8
  refine zBy (zAq (zAq (zBc (zAd (gn _ _ (zAg (fun gW gx => (zAc (zBj rfl rfl (zAe (zAd (gx _ _ (zA7 (zBa (l := [.tmp 8]) (vs := [_]) rfl ⟨⟨rfl, (rfl : _ = Value.bool _)⟩, trivial⟩ ?_))))))))))))))
  first
    | exact ⟨cur, cur, B1, hcl, hcl, hk, hz, hs, .inl ⟨rfl, i + 1, zCm hpos, zCc hpos, zEn hnd hpos, hJ1⟩⟩
    | exact ⟨cur, cur, B1, hcl, hcl, hk, hz, hs, .inr ⟨rfl, hJ1⟩⟩
    | exact ⟨cur2, last2, B2, hc2, hl2, zB8 hk2 hpl, hz2, hs, .inr ⟨rfl, hJ2⟩⟩
    | exact ⟨cur, last, B, hcl, hll, hk, hz, hs, .inl ⟨rfl, i, hi, (by rw [hpos, show q = below + 1 from by omega, zE3]; rfl), (by rw [← show Ls.drop i = R from by rw [hpos, show q = below + 1 from by omega, zE3]; rfl]; exact hlast), hJ⟩⟩

end Go.Proofs.Cb
set_option maxRecDepth 20000
namespace Go.Proofs.Cb
open Go.Proofs.Tryz
open Go.Rt Go.Rt.Ca
attribute [local irreducible] WL WC Con Yd At Ats Sl Agree DW

theorem next_all {w0 : World} {F : List (Nat × Obj)} (p : Port) (a : Option Addr) (c m pb : Nat) (hp : Ats w0 F pb 0 [.int .i64 p.hold, .int .i64 p.clo, .int .i64 p.chi, .slice a p.farms.length c, .map (some m)]) (ha : Sl w0 F a 6 (rows p.farms)) (hok : p.Ok) (n below bp bl bla bY bb bn : Nat) (hbe : below ≤ 11) (h1 : Ats w0 F bp 0 [.pointer (some ⟨pb, 0, none⟩)]) (h5 : Ats w0 F bb 0 [.int .i64 (below : Int)]) (hn : n = p.farms.length) (Ls : List (List Int)) (hnd : Ls.Nodup) (J : Nat → List (Nat × Obj) → Prop) (Js : List (Nat × Obj) → Prop) (yv : Value) (hy : ∀ (i : Nat) (x : List Int) (R : List (List Int)) (B X : List (Nat × Obj)) (w : World), Ls.drop i = x :: R → J i B → St w0 w (X ++ (B ++ F)) → FCon Tryz.prog yv [ia x] w fun v w' => ∃ B', St w0 w' (X ++ (B' ++ F)) ∧ (v = .bool true ∧ J (i + 1) B' ∨ v = .bool false ∧ Js B')) (rem : Nat) : NextC n below bp bl bla bY bb bn Ls J Js yv w0 F rem := by
  induction rem with
  | zero => exact c80 p a c m pb hp ha hok n below bp bl bla bY bb bn hbe h1 h5 hn Ls hnd J Js yv hy 0 (fun r h => by omega)
  | succ r ih => exact c80 p a c m pb hp ha hok n below bp bl bla bY bb bn hbe h1 h5 hn Ls hnd J Js yv hy (r + 1) (fun q h => by have : q = r := (by omega); subst this; exact ih)
theorem iter_lists {w0 : World} {F : List (Nat × Obj)} {Ls : List (List Int)} {J : Nat → List (Nat × Obj) → Prop} {Js : List (Nat × Obj) → Prop} {yv : Value}
    (hy : ∀ i (hi : i < (Ls.map ia).length) B X w, J i B → St w0 w (X ++ (B ++ F)) → FCon Tryz.prog yv [(Ls.map ia)[i]] w fun v w' => ∃ B', St w0 w' (X ++ (B' ++ F)) ∧ (v = .bool true ∧ J (i + 1) B' ∨ v = .bool false ∧ Js B')) :
    ∀ (i : Nat) (x : List Int) (R : List (List Int)) (B X : List (Nat × Obj)) (w : World), Ls.drop i = x :: R → J i B → St w0 w (X ++ (B ++ F)) → FCon Tryz.prog yv [ia x] w fun v w' => ∃ B', St w0 w' (X ++ (B' ++ F)) ∧ (v = .bool true ∧ J (i + 1) B' ∨ v = .bool false ∧ Js B') := by
  intro i x R B X w hd hJ hs
  have := hy i (by simpa using zCm hd) B X w hJ hs
  rw [List.getElem_map, zDd hd] at this
  exact this
theorem all_iter {w0 : World} {F : List (Nat × Obj)} (p : Port) (a : Option Addr) (c m pb : Nat) (hp : Ats w0 F pb 0 [.int .i64 p.hold, .int .i64 p.clo, .int .i64 p.chi, .slice a p.farms.length c, .map (some m)]) (ha : Sl w0 F a 6 (rows p.farms)) (hok : p.Ok) (below bp bb : Nat) (hbe : below ≤ 11) (h1 : Ats w0 F bp 0 [.pointer (some ⟨pb, 0, none⟩)]) (h5 : Ats w0 F bb 0 [.int .i64 (below : Int)]) : Iter Tryz.prog 79 [] [.pointer (some ⟨bp, 0, none⟩), .pointer (some ⟨bb, 0, none⟩)] (((allC below p.farms.length).map pad).map ia) w0 F := by
  intro J Js yv B X w hyv hy hJ hs
  obtain ⟨yf, ya, yb, rfl⟩ := hyv
  have hlen3 := hok.len
  show Con Tryz.prog 79 [.func yf ya yb, .pointer (some ⟨bp, 0, none⟩), .pointer (some ⟨bb, 0, none⟩)] w _
  refine zAu (n := 11) func79 rfl rfl (zNl rfl) ?_
  refine zAg (fun K2 g3 => (zAc (zCj (v := .func _ _ _) (cs := [_]) zAb rfl rfl rfl hs (fun b3 w4 g4 => ?_))))
  refine zAe (zAd (g3 _ _ (zAg (fun K7 g5 => (zAc (zA0 (cs := iv [0,0,0]) zAb zeroValue85 rfl g4 (fun b8 w9 g6 => ?_)))))))
  refine zA0 (cs := iv [0,0,0]) zAb zeroValue85 rfl g6 (fun g7 gg g8 => ?_)
  refine zAe (zAd (g5 _ _ (zAg (fun gh g9 => (zAc (w_p (zCb underlying85 sizeOf3 rfl rfl rfl rfl (i := 0) rfl (by omega)) rfl (zDr (i := 0) (j := 0) zAb sizeOf3 rfl rfl rfl rfl g8 rfl (by first | omega | rfl | (simp only [zL] <;> omega)) (fun gi ga => ?_))))))))
  refine zAe (zAd (g9 _ _ (zAg (fun gj gb => (zAc (zA0 (cs := [_]) zAb zeroValue119 rfl ga (fun gc gk gd => ?_)))))))
  refine zAe (zAd (gb _ _ (zAg (fun gl ge => (zAc (w_p (zCa (fv := []) (cv := [_,_,_,_,_,_]) rfl rfl rfl rfl) rfl (zAs (i := 0) (v := .func _ _ _) (vs := [_]) zAb sizeOf119 rfl rfl rfl rfl rfl (by simp [Value.oneCell']) gd rfl (zNl rfl) (fun gm g0 => ?_))))))))
  refine zAe (zAd (ge _ _ (zAc (w_p (zAk isAgg119 g0 rfl rfl (zAl (i := 0) (vs := [_]) rfl rfl)) rfl (zAr zAb call80 rfl rfl rfl rfl (next_all p a c m pb hp ha hok p.farms.length below bp b8 g7 b3 bb gc hbe h1 h5 rfl ((allC below p.farms.length).map pad) (allpad_nodup hlen3) J Js (.func yf ya yb) (iter_lists hy) p.farms.length 0 [] (List.replicate 3 0) [-2,0,0] 0 [] B X _ (by omega) rfl rfl rfl (fun j _ => by match j with | 0 => rfl | 1 => rfl | 2 => rfl | _ + 3 => rfl) (by omega) (by rw [List.append_nil]; rfl) rfl (by rw [List.drop_zero]; exact start_notin) hJ g0) ?_)))))
  rintro _ gn ⟨cur2, last2, B2, _,_,_,_, gf, hB2⟩
  refine zAe (q_end (l := []) (vs := []) rfl trivial ?_)
  refine ⟨B2, gf.tail.tail.tail.tail, ?_⟩
  rcases hB2 with ⟨_, i', hi', hd', _, hJ'⟩ | ⟨_, hJ'⟩
  · left; rw [List.length_map, ← zCx hi' hd']; exact hJ'
  · exact .inr hJ'

end Go.Proofs.Cb
set_option maxRecDepth 20000
namespace Go.Proofs.Cb
open Go.Proofs.Tryz
open Go.Rt Go.Rt.Ca
attribute [local irreducible] WL WC Con Yd At Ats Sl Agree DW
theorem Try_CM_fb6  (w : World) : (Instr.build 91 [].toArray).run Tryz.prog w = .ok (.agg #[.int .i64 0, .int .i64 0, .int .i64 0]) w := by kernel_rfl
theorem Try_flat91 : flatInts Tryz.prog 91 3 = true := by kernel_rfl
theorem c54 {w0 w : World} {F : List (Nat × Obj)} (pb : Nat) (z : Int) (hs : St w0 w F) :
  Con Tryz.prog 54 [.pointer (some ⟨pb, 0, none⟩), .int .i64 z] w fun v w' => ∃ bp bb, v = .func (.func 79) #[] #[.pointer (some ⟨bp, 0, none⟩), .pointer (some ⟨bb, 0, none⟩)] ∧ St w0 w' ((bb, blk 3 [.int .i64 z]) :: (bp, blk 83 [.pointer (some ⟨pb, 0, none⟩)]) :: F) := by
  refine zAu (n := 6) func54 rfl rfl (zNl rfl) ?_
  refine zAg (fun K2 g0 => (zAc (zCj (v := .pointer _) (cs := [_]) zAb rfl rfl rfl hs (fun b3 w4 g3 => ?_))))
  refine zCj (v := .int _ _) (cs := [_]) zAb rfl rfl rfl g3 (fun b6 w7 g4 => ?_)
  refine zBj rfl rfl (zAe (zAd (g0 _ _ (zAg (fun g6 g5 => (zAc (w_p (zCa (fv := []) (cv := [_,_]) rfl rfl rfl rfl) rfl (w_p (zAo (v := .func _ _ _) rfl rfl) rfl ?_))))))))
  refine zAe (zAd (g5 _ _ (zA7 (zBa (l := [.tmp 4]) (vs := [_]) rfl ⟨⟨rfl, show _ = (.func _ _ _ : Value) from rfl⟩, trivial⟩ ?_))))
  exact ⟨_, _, rfl, g4⟩

theorem c48 {w0 w : World} {F : List (Nat × Obj)} (pb : Nat) (hs : St w0 w F) :
  Con Tryz.prog 48 [.pointer (some ⟨pb, 0, none⟩)] w fun v w' => ∃ bq, v = .func (.func 76) #[] #[.pointer (some ⟨bq, 0, none⟩)] ∧ St w0 w' ((bq, blk 83 [.pointer (some ⟨pb, 0, none⟩)]) :: F) := by
  refine zAu (n := 4) func48 rfl rfl (zNl rfl) ?_
  refine zAg (fun K2 g0 => (zAc (zCj (v := .pointer _) (cs := [_]) zAb rfl rfl rfl hs (fun b3 w4 g3 => ?_))))
  refine zBj rfl rfl (zAe (zAd (g0 _ _ (zAg (fun K7 g4 => (zAc (w_p (zCa (fv := []) (cv := [_]) rfl rfl rfl rfl) rfl (w_p (zAo (v := .func _ _ _) rfl rfl) rfl ?_))))))))
  refine zAe (zAd (g4 _ _ (zA7 (zBa (l := [.tmp 2]) (vs := [_]) rfl ⟨⟨rfl, show _ = (.func _ _ _ : Value) from rfl⟩, trivial⟩ ?_))))
  exact ⟨_, rfl, g3⟩

theorem does_perm {x y z : Nat × Obj} (X B F : List (Nat × Obj)) : (x :: y :: z :: (X ++ (B ++ F))).Perm ((z :: B) ++ (x :: y :: (X ++ F))) :=
  (List.Perm.cons x (List.Perm.cons y (List.Perm.cons z (zAa X B F)))).trans (zAa [x, y] (z :: B) (X ++ F))
theorem bi {a b : Bool} {c d : Int} (h : a = b) (k : c = d) : [Value.bool a, Value.int .i64 c] = [Value.bool b, Value.int .i64 d] := by rw [h, k]
theorem zHc {w0 w : World} {x y : Nat × Obj} {X B F : List (Nat × Obj)} (h : St w0 w (B ++ (x :: y :: (X ++ F)))) : St w0 w (X ++ (B ++ F)) := by
  have h1 := (h.perm (zAa B [x, y] (X ++ F))).tail.tail
  exact St.perm (L := B ++ (X ++ F)) h1 (zAa B X F)
theorem y_call {w0 w : World} {F Y B Xr X : List (Nat × Obj)} {u v : Nat × Obj} {Ls : List (List Int)} {J : Nat → List (Nat × Obj) → Prop} {Js : List (Nat × Obj) → Prop} {yv : Value}
    (hy : ∀ (i : Nat) (x : List Int) (R : List (List Int)) (B X : List (Nat × Obj)) (w : World), Ls.drop i = x :: R → J i B → St w0 w (X ++ (B ++ F)) → FCon Tryz.prog yv [ia x] w fun v w' => ∃ B', St w0 w' (X ++ (B' ++ F)) ∧ (v = .bool true ∧ J (i + 1) B' ∨ v = .bool false ∧ Js B'))
    {i : Nat} {x : List Int} {R : List (List Int)} (hd : Ls.drop i = x :: R) (hJ : J i B) (hs : St w0 w (Y ++ (B ++ (Xr ++ (u :: v :: (X ++ F)))))) :
    FCon Tryz.prog yv [ia x] w fun r w' => ∃ B', St w0 w' (Y ++ (B' ++ (Xr ++ (u :: v :: (X ++ F))))) ∧ (r = .bool true ∧ J (i + 1) B' ∨ r = .bool false ∧ Js B') := by
  have key : ∀ B : List (Nat × Obj), (Y ++ (B ++ (Xr ++ (u :: v :: (X ++ F))))).Perm ((Y ++ (Xr ++ (u :: v :: X))) ++ (B ++ F)) := by
    intro B
    have e : B ++ (Xr ++ (u :: v :: (X ++ F))) = B ++ ((Xr ++ (u :: v :: X)) ++ F) := by simp
    rw [e, List.append_assoc Y]
    exact List.Perm.append_left Y (zAa B (Xr ++ (u :: v :: X)) F)
  refine (hy i x R B _ w hd hJ (hs.perm (key B))).mono ?_
  rintro r w' ⟨B', hs', h⟩
  exact ⟨B', hs'.perm (key B').symm, h⟩
theorem does_iter {w0 : World} {F : List (Nat × Obj)} (p : Port) (a : Option Addr) (c m pb : Nat) (hp : Ats w0 F pb 0 [.int .i64 p.hold, .int .i64 p.clo, .int .i64 p.chi, .slice a p.farms.length c, .map (some m)]) (ha : Sl w0 F a 6 (rows p.farms)) (hok : p.Ok) (b1 : Nat) (h1 : Ats w0 F b1 0 [.pointer (some ⟨pb, 0, none⟩)]) : Iter Tryz.prog 76 [] [.pointer (some ⟨b1,0, none⟩)] (((doC p).map pad).map ia) w0 F := by
  intro J Js yv B X w hyv hy0 hJ hs
  have hy := iter_lists hy0
  obtain ⟨yf, ya, yb, rfl⟩ := hyv
  have hlen3 := hok.len
  have hcome := hok.come
  show Con Tryz.prog 76 [.func yf ya yb, .pointer (some ⟨b1,0, none⟩)] w _
  refine zD7 (n := 53) func76 rfl rfl (zNl rfl) ?_
  refine zAg (fun K2 gg => (zAc (zCj (v := .func _ _ _) (cs := [_]) zAb rfl rfl rfl hs (fun b3 w4 g8 => ?_))))
  refine zAe (zAd (gg _ _ (zAg (fun K7 gh => (zAc (w_p (zAk isAgg83 g8.tail.drop.drop rfl rfl h1) rfl (zAr zAb call54 rfl rfl rfl rfl (c54 _ _ g8) ?_)))))))
  rintro _ w9 ⟨bp, bb, rfl, gi⟩
  refine zAe (zAd (gh _ _ (zA8 ?_)))
  refine w_range (_ :: B) (fun i Bx => ∃ B', Bx = (b3, blk 139 [.func yf ya yb]) :: B' ∧ J (((allC 11 p.farms.length).take i).filter fun l => full p l).length B') (fun c Bx => c = .ret ∧ ∃ B', Bx = (b3, blk 139 [.func yf ya yb]) :: B' ∧ Js B') rfl rfl rfl call79 (all_iter p a c m pb hp.app.cons.cons ha.app.cons.cons hok 11 bp bb (by omega) (zAl (i := 1) (vs := [_]) rfl rfl) (zAl (i := 0) (vs := [_]) rfl rfl)) gi (does_perm X B F) ⟨B, rfl, hJ⟩ ?_ ?_ ?_
  ·
   intro lp i hi Bx Xr Xr2 gw hJ hs K gj
   obtain ⟨B1, rfl, hJ1⟩ := hJ
   have hi2 : i < (allC 11 p.farms.length).length := by simpa using hi
   rw [List.getElem_map, List.getElem_map]
   have hlen := zCh (allC 11 p.farms.length)[i]
   have hl1 := allpad_in (by omega) hi2
   have hfp := full_pad (p := p) (all_len2 hi2) hlen3
   obtain ⟨l, hl⟩ : ∃ l, l = pad (allC 11 p.farms.length)[i] := ⟨_, rfl⟩
   rw [← hl] at hlen hl1 hfp ⊢
   replace hs := (show St _ _ (_ :: (B1 ++ (Xr ++ (_ :: _ :: (X ++ F))))) from hs)
   refine zAc (zA0 (cs := iv [0,0,0]) zAb zeroValue85 rfl hs (fun gk gx gl => ?_))
   refine zB6 (i := 0) (l := _) zAb sizeOf85 (by first | omega | rfl | (simp only [zCh, zL] <;> omega)) rfl rfl rfl rfl rfl gl rfl (by first | omega | rfl | (simp only [zCh, zL] <;> omega)) (fun gy gm => ?_)
   refine zAe (zAd (gj _ _ (_ :: _ :: B1) gm (fun gz g4 => ?_)))
   replace g4 := (show St _ _ (_ :: _ :: B1 ++ (Xr2 ++ (_ :: _ :: X ++ (F)))) from g4)
   refine zA8 ?_
   refine zAg (fun gA gn => (zAc (zBj rfl rfl (zAe (zAd (gn _ _ (zAg (fun gB g9 => (zAg (fun gC go => (zAc (w_p (zAk isAgg83 g4.tail.tail.drop.drop.tail.tail.drop rfl rfl h1) rfl ?_))))))))))))
   refine w_p (zBn rfl rfl) rfl (w_p (zAf (o := 0) (i := 0) underlying128 rfl sizeOf26 rfl rfl rfl) rfl (w_p (zAf (o := 1) (i := 1) underlying26 rfl sizeOf23 rfl rfl rfl) rfl (w_p (zAf (o := 0) (i := 0) underlying23 rfl sizeOf3 rfl rfl rfl) rfl ?_)))
   refine w_p (zAk isAgg3 g4.tail.tail.drop.drop.tail.tail.drop rfl rfl (show Ats _ _ _ _ [_] from Ats.part hp 1 1)) rfl (zBs rfl rfl (zAe (zAd (go _ _ (zA8 ?_)))))
   refine zCd [4,5,6,16,17,18,19,20,21,22,23,24,25,26,27,28,29,30,31,32,33,34,35,36,37,38,39,40,41,42,43,44,45] [4,5] (fun k vs w => ∃ (q : Nat), vs = [.bool (fullUpto p l q), .int .i64 (p.clo + q)] ∧ (q : Int) ≤ p.chi - p.clo + 1 ∧ k = (p.chi - p.clo + 1 - q).toNat ∧ St w0 w ((gk, blk 85 (iv l)) :: (b3, blk 139 [.func yf ya yb]) :: (B1 ++ (Xr2 ++ ((bb, blk 3 [.int .i64 11]) :: (bp, blk 83 [.pointer (some ⟨pb, 0, none⟩)]) :: (X ++ F)))))) ((p.chi - p.clo + 1).toNat) ?_ ?_
   ·
    exact ⟨0, bi (show true = fullUpto p l 0 by simp [fullUpto]) (by omega), by omega, by simp, g4⟩
   intro k vs μ gD hI gE ga
   obtain ⟨q, rfl, hq, rfl, hs⟩ := hI
   generalize hfu : fullUpto p l q = fu
   refine zAg (fun gF gp => (zAg (fun gG gb => (zAc (w_p (zAi (v := .bool _) rfl rfl) rfl (w_p (zAi (v := .bool _) rfl rfl) rfl (zBp (fun g5 => ?_) (fun g5 => ?_))))))))
   ·
    subst g5
    refine w_y rfl rfl rfl (zA6 rfl rfl) rfl ?_
    refine w_y rfl rfl rfl (zAk isAgg83 hs.tail.tail.drop.drop.tail.tail.drop rfl rfl h1) rfl ?_
    refine w_y rfl rfl rfl (zBn rfl rfl) rfl ?_
    refine w_y rfl rfl rfl (zAf (o := 0) (i := 0) underlying128 rfl sizeOf26 rfl rfl rfl) rfl ?_
    refine w_y rfl rfl rfl (zAf (o := 1) (i := 1) underlying26 rfl sizeOf23 rfl rfl rfl) rfl ?_
    refine w_y rfl rfl rfl (zAf (o := 1) (i := 1) underlying23 rfl sizeOf3 rfl rfl rfl) rfl ?_
    refine w_y rfl rfl rfl (zAk isAgg3 hs.tail.tail.drop.drop.tail.tail.drop rfl rfl (show Ats _ _ _ _ [_] from Ats.part hp 2 1)) rfl ?_
    refine w_y rfl rfl rfl (zGf rfl rfl rfl rfl) rfl ?_
    refine w_p (zAv (v := .bool _) rfl rfl rfl rfl) rfl (zAe (zAd (gb _ _ (zA1 rfl rfl (fun g6 => ?_) (fun g6 => ?_)))))
    ·
     try simp only [zS] at g6
     refine zAx (zAd (gp _ _ (zAg (fun gH gc => (zA8 ?_)))))
     refine zAg (fun gI gq => (zAc (w_p (zAk isAgg83 hs.tail.tail.drop.drop.tail.tail.drop rfl rfl h1) rfl (w_p (zBz (i := 0) isAgg85 sizeOf85 (by first | omega | rfl | (simp only [zCh, zL] <;> omega)) hs rfl rfl rfl) rfl ?_))))
     refine zBe rfl rfl (zAr zAb call73 rfl rfl rfl rfl (c73 p _ c m pb hp.app.cons.cons.app.app.cons.cons ha.app.cons.cons.app.app.cons.cons hok l hlen hl1 _ (by omega) (by omega) hs) ?_)
     rintro _ gJ ⟨rfl, gr⟩
     refine zA0 (cs := [_,_,_]) zAb zeroValue91 rfl gr (fun gK gL gt => ?_)
     refine zAs (i := 0) (v := .agg #[.int _ _, .int _ _, .int _ _]) (vs := [_,_,_]) zAb sizeOf91 rfl rfl rfl rfl rfl (by simp [Value.oneCell']) gt rfl (zNl rfl) (fun gM gu => ?_)
     refine zAe (zAd (gq _ _ (zCe [] [(0,1),(1,0),(2,0),(3,0),(4,0),(5,1),(6,1),(7,0),(8,0),(9,0),(10,1),(11,0),(12,0),(13,0)] zB0 (by kernel_rfl) gu (fun gN g0 => ?_))))
     refine zBb rfl zAb rfl g0 (fun _ hq => (zA9 (vs := [_,_,_]) isAgg91 sizeOf91 hq rfl rfl (zAl (i := 0) (vs := [_,_,_]) rfl rfl))) ?_
     refine d_w rfl (fun _ => zBx (ps := []) (pv := []) rfl rfl (fun w => Try_CM_fb6  w)) rfl ?_
     refine d_w rfl (fun _ => y_neFlat (l := [_,_,_]) (m := [_,_,_]) eqGuardType91 Try_flat91 (by first | omega | rfl | (simp only [zCh, zL] <;> omega)) (by first | omega | rfl | (simp only [zCh, zL] <;> omega)) rfl rfl rfl rfl rfl rfl) rfl ?_
     refine d_w rfl (fun _ => zAi (v := .bool _) rfl rfl) rfl ?_
     refine zDx (fun g7 => ?_) (fun g7 => ?_)
     ·
      try simp only [zS] at g7
      refine zBv rfl (zAp rfl rfl rfl) rfl (fun _ => (zAf (o := 0) (i := 0) underlying91 rfl sizeOf3 rfl rfl rfl)) ?_
      refine zBb rfl (zAp rfl rfl rfl) rfl g0 (fun _ hq => (zAk isAgg3 hq rfl rfl (zAl (i := 0) (vs := [_]) rfl rfl))) ?_
      refine zBb rfl (zAp rfl rfl rfl) rfl g0 (fun _ hq => (zAk isAgg83 hq.tail.tail.tail.drop.drop.tail.tail.drop rfl rfl h1)) ?_
      refine zBv rfl (zAp rfl rfl rfl) rfl (fun _ => (zBn rfl rfl)) ?_
      refine zBv rfl (zAp rfl rfl rfl) rfl (fun _ => (zAf (o := 0) (i := 0) underlying128 rfl sizeOf26 rfl rfl rfl)) ?_
      refine zBv rfl (zAp rfl rfl rfl) rfl (fun _ => (zAf (o := 0) (i := 0) underlying26 rfl sizeOf3 rfl rfl rfl)) ?_
      refine zBb rfl (zAp rfl rfl rfl) rfl g0 (fun _ hq => (zAk isAgg3 hq.tail.tail.tail.drop.drop.tail.tail.drop rfl rfl (show Ats _ _ _ _ [_] from Ats.part hp 0 1))) ?_
      refine zBv rfl (zAp rfl rfl rfl) rfl (fun _ => (zHh rfl rfl rfl rfl)) ?_
      refine d_w rfl (fun _ => zAv (v := .bool _) rfl rfl rfl rfl) rfl ?_
      refine d_w rfl (fun _ => zAo (v := .bool _) rfl rfl) rfl ?_
      refine zBh ?_
      refine zAn (zAd (gc _ _ (zAc (zBe rfl rfl (w_p (zBq rfl rfl rfl rfl (by omega) (by omega)) rfl (zBs rfl rfl (zAe (zAd (ga _ _ (nxI ((p.chi - p.clo + 1 - (q + 1 : Nat)).toNat) (by omega) ?_))))))))))
      first
        | exact ⟨q + 1, bi (by rw [zEh l (by omega), zero_least hok (x := on p.farms l (p.clo + q)) (by assumption)]; simp) (by omega), by omega, rfl, g0.tail⟩
        | exact ⟨q + 1, bi (by rw [zEh l (by omega), hfu]; simp) (by omega), by omega, rfl, g0.tail⟩
     try simp only [zS] at g7
     refine zBr rfl rfl rfl rfl ?_
     refine zCt rfl rfl rfl rfl g0 ?_
     refine zCt rfl rfl rfl rfl g0 ?_
     refine zBr rfl rfl rfl rfl ?_
     refine zBr rfl rfl rfl rfl ?_
     refine zBr rfl rfl rfl rfl ?_
     refine zCt rfl rfl rfl rfl g0 ?_
     refine zBr rfl rfl rfl rfl ?_
     refine d_w rfl (fun _ => zBg (v := _) rfl rfl rfl rfl) rfl ?_
     refine d_w rfl (fun _ => zAo (v := .bool _) rfl rfl) rfl ?_
     refine zBh ?_
     refine zAn (zAd (gc _ _ (zAc (zBe rfl rfl (w_p (zBq rfl rfl rfl rfl (by omega) (by omega)) rfl (zBs rfl rfl (zAe (zAd (ga _ _ (nxI ((p.chi - p.clo + 1 - (q + 1 : Nat)).toNat) (by omega) ?_))))))))))
     first
       | exact ⟨q + 1, bi (by rw [zEh l (by omega), zero_least hok (x := on p.farms l (p.clo + q)) (by assumption)]; simp) (by omega), by omega, rfl, g0.tail⟩
       | exact ⟨q + 1, bi (by rw [zEh l (by omega), hfu]; simp) (by omega), by omega, rfl, g0.tail⟩
    try simp only [zS] at g6
    refine zBy (zAq (zAq (zBc (zAd (g9 _ _ (zAg (fun gO gd => (zAc (w_p (zAi (v := .bool _) rfl rfl) rfl (w_p (zAi (v := .bool _) rfl rfl) rfl ?_))))))))))
    refine w_y rfl rfl rfl (zAk isAgg139 hs rfl rfl (zAl (i := 1) (vs := [_]) rfl rfl)) rfl ?_
    refine w_y rfl rfl rfl (zBz (i := 0) isAgg85 sizeOf85 (by first | omega | rfl | (simp only [zCh, zL] <;> omega)) hs rfl rfl rfl) rfl ?_
    refine zEc (zAp rfl rfl rfl) rfl rfl rfl rfl (y_call (Y := [_,_]) hy (R := (((allC 11 p.farms.length).drop (i + 1)).filter fun l => full p l).map pad) (by rw [hl, ← List.map_drop, doC, filter_here hi2 (hfp.symm.trans (by rw [← zF0 l (i := q) (by omega)]; exact hfu))]; rfl) hJ1 hs) ?_
    rintro _ gP ⟨B2, g3, (⟨rfl, hJ2⟩ | ⟨rfl, hJ2⟩)⟩
    ·
     replace g3 := (show St _ _ (_ :: _ :: B2 ++ (Xr2 ++ (_ :: _ :: X ++ (F)))) from g3)
     refine w_y rfl rfl rfl (zDq rfl rfl) rfl ?_
     refine w_p (zAv (v := .bool _) rfl rfl rfl rfl) rfl (zAe (zAd (gd _ _ (zB7 rfl rfl ?_))))
     refine zAx (zAn (zDk (_ :: B2) g3.tail ?_))
     first
       | exact ⟨B2, rfl, by rw [filter_yes hi2 (hfp.symm.trans (by rw [← zF0 l (i := q) (by omega)]; exact hfu))]; exact hJ2⟩
       | exact ⟨B1, rfl, by rw [filter_no hi2 (hfp.symm.trans (full_false l hfu))]; exact hJ1⟩
    replace g3 := (show St _ _ (_ :: _ :: B2 ++ (Xr2 ++ (_ :: _ :: X ++ (F)))) from g3)
    refine w_y rfl rfl rfl (zDq rfl rfl) rfl ?_
    refine w_p (zAv (v := .bool _) rfl rfl rfl rfl) rfl (zAe (zAd (gd _ _ (zC0 rfl rfl ?_))))
    refine zA7 (zAy (rd_ret (_ :: B2) g3.tail ?_))
    exact ⟨rfl, B2, rfl, hJ2⟩
   subst g5
   refine zAj rfl rfl rfl ?_
   refine zAj rfl rfl rfl ?_
   refine zAj rfl rfl rfl ?_
   refine zAj rfl rfl rfl ?_
   refine zAj rfl rfl rfl ?_
   refine zAj rfl rfl rfl ?_
   refine zAj rfl rfl rfl ?_
   refine zAj rfl rfl rfl ?_
   refine w_p (zBg (v := _) rfl rfl rfl rfl) rfl (zAe (zAd (gb _ _ (zB7 rfl rfl ?_))))
   refine zBy (zAq (zAq (zBc (zAd (g9 _ _ (zAg (fun gQ gv => (zAc (w_p (zAi (v := .bool _) rfl rfl) rfl (w_p (zAi (v := .bool _) rfl rfl) rfl ?_))))))))))
   refine zAj rfl rfl rfl ?_
   refine zAj rfl rfl rfl ?_
   refine zAj rfl rfl rfl ?_
   refine zAj rfl rfl rfl ?_
   refine w_p (zBg (v := _) rfl rfl rfl rfl) rfl (zAe (zAd (gv _ _ (zB7 rfl rfl ?_))))
   refine zAx (zAn (zDk (_ :: B1) hs.tail ?_))
   first
     | exact ⟨B2, rfl, by rw [filter_yes hi2 (hfp.symm.trans (by rw [← zF0 l (i := q) (by omega)]; exact hfu))]; exact hJ2⟩
     | exact ⟨B1, rfl, by rw [filter_no hi2 (hfp.symm.trans (full_false l hfu))]; exact hJ1⟩
  ·
   intro bd Bx gR hJ hs
   obtain ⟨B1, rfl, hJ1⟩ := hJ
   refine zAn (q_endM (i := 0) (l := []) (vs := []) hs rfl rfl (fun gS ge => ⟨trivial, ?_⟩))
   first
     | exact ⟨B1, zHc ge.tail.tail, .inl (by rw [List.length_map, List.length_map] at *; rw [List.take_length] at hJ1; exact hJ1)⟩
     | exact ⟨B1, zHc ge.tail.tail, .inr hJ1⟩
  intro bd c Bx gT hJ hs
  obtain ⟨rfl, B1, rfl, hJ1⟩ := hJ
  refine zA7 (zAy (zFo (i := 0) (l := []) (vs := []) hs rfl rfl (fun gU gf => ⟨trivial, ?_⟩)))
  first
    | exact ⟨B1, zHc gf.tail.tail, .inl (by rw [List.length_map, List.length_map] at *; rw [List.take_length] at hJ1; exact hJ1)⟩
    | exact ⟨B1, zHc gf.tail.tail, .inr hJ1⟩

end Go.Proofs.Cb
set_option maxRecDepth 20000
namespace Go.Proofs.Cb
open Go.Proofs.Tryz
open Go.Rt Go.Rt.Ca
attribute [local irreducible] WL WC Con Yd At Ats Sl Agree DW
theorem Try_CN_fb7 (x0 : Int) (x1 : Int) (w : World) : (Instr.build 103 [(0, .int .i64 x0),(1, .int .i64 x1)].toArray).run Tryz.prog w = .ok (.agg #[.int .i64 x0, .int .i64 x1]) w := by kernel_rfl
theorem c52 {w0 w : World} {F : List (Nat × Obj)} (p : Port) (a : Option Addr) (c m pb : Nat) (hp : Ats w0 F pb 0 [.int .i64 p.hold, .int .i64 p.clo, .int .i64 p.chi, .slice a p.farms.length c, .map (some m)]) (ha : Sl w0 F a 6 (rows p.farms)) (hok : p.Ok) (hs : St w0 w F) :
  Con Tryz.prog 52 [.pointer (some ⟨pb, 0, none⟩)] w fun v w' => v = .bool (!(doC p).isEmpty) ∧ St w0 w' F := by
  refine zD7 (n := 6) func52 rfl rfl (zNl rfl) ?_
  refine zAg (fun K2 g5 => (zAc (zA0 (cs := [_]) zAb zeroValue4 rfl hs (fun b3 w4 g6 => ?_))))
  refine zAe (zAd (g5 _ _ (zAg (fun K7 g7 => (zAg (fun K9 g8 => (zAc (w_p (zAi (v := .pointer _) rfl rfl) rfl (zAr zAb call48 rfl rfl rfl rfl (c48 _ g6) ?_)))))))))
  rintro _ gf ⟨bq, rfl, g9⟩
  refine zAe (zAd (g8 _ _ (zA8 ?_)))
  refine w_range ([_]) (fun i Bx => i = 0 ∧ Bx = [(b3, blk 4 [.bool false])]) (fun c Bx => c = .ret ∧ Bx = [(b3, blk 4 [.bool true])] ∧ 0 < (doC p).length) rfl rfl rfl call76 (does_iter p a c m pb hp.cons ha.cons hok bq (zAl (i := 0) (vs := [_]) rfl rfl)) g9 (List.Perm.swap _ _ _) ⟨rfl, rfl⟩ ?_ ?_ ?_
  ·
   intro lp i hi Bx Xr Xr2 gg hJ hs K ga
   obtain ⟨rfl, rfl⟩ := hJ
   have hi0 : 0 < (doC p).length := by simpa using hi
   replace hs := (show St _ _ (_ :: (Xr ++ (_ :: F))) from hs)
   refine zAx (zAd (ga _ _ (_ :: []) hs (fun gh g0 => ?_)))
   replace g0 := (show St _ _ (_ :: Xr2 ++ (_ :: F)) from g0)
   refine zA8 ?_
   refine zAg (fun gi gb => (zAc (zAs (i := 0) (v := .bool _) (vs := [_]) zAb sizeOf4 rfl rfl rfl rfl rfl (by simp [Value.oneCell']) g0 rfl (zNl rfl) (fun gj gc => ?_))))
   refine zAe (zAd (gb _ _ (zA7 (zAy (rd_ret (_ :: []) gc ?_)))))
   exact ⟨rfl, rfl, hi0⟩
  ·
   intro bd Bx gk hJ hs
   obtain ⟨h0, rfl⟩ := hJ
   rw [List.length_map, List.length_map] at h0
   refine zAn (zAd (g7 _ _ (zAg (fun gl gd => (zAc (zAs (i := 1) (v := .bool _) (vs := [_]) zAb sizeOf4 rfl rfl rfl rfl rfl (by simp [Value.oneCell']) hs rfl (zNl rfl) (fun gm ge => ?_)))))))
   refine zAe (zAd (gd _ _ (zA7 (zFo (i := 0) (l := [.cell 2 4]) (vs := [_]) ge rfl rfl (fun gn g3 => ⟨⟨⟨rfl, _, rfl, zCi isAgg4 g3 (zAl (i := 1) (vs := [_]) rfl rfl)⟩, trivial⟩, ?_⟩)))))
   first
     | exact ⟨congrArg Value.bool (by rw [List.length_eq_zero_iff.1 h0]; rfl), g3.tail.tail.tail⟩
     | exact ⟨congrArg Value.bool (by cases hd : doC p with | nil => rw [hd] at h0; simp at h0 | cons _ _ => rfl), g3.tail.tail.tail⟩
  intro bd c Bx go hJ hs
  obtain ⟨rfl, rfl, h0⟩ := hJ
  refine zA7 (zAy (zAm (zFo (i := 0) (l := [.cell 2 4]) (vs := [_]) hs rfl rfl (fun gp g4 => ⟨⟨⟨rfl, _, rfl, zCi isAgg4 g4 (zAl (i := 1) (vs := [_]) rfl rfl)⟩, trivial⟩, ?_⟩))))
  first
    | exact ⟨congrArg Value.bool (by rw [List.length_eq_zero_iff.1 h0]; rfl), g4.tail.tail.tail⟩
    | exact ⟨congrArg Value.bool (by cases hd : doC p with | nil => rw [hd] at h0; simp at h0 | cons _ _ => rfl), g4.tail.tail.tail⟩

theorem c49 {w0 w : World} {X M F : List (Nat × Obj)} (p : Port) (a : Option Addr) (c m pb : Nat) (hp : Ats w0 F pb 0 [.int .i64 p.hold, .int .i64 p.clo, .int .i64 p.chi, .slice a p.farms.length c, .map (some m)]) (ha : Sl w0 F a 6 (rows p.farms)) (hok : p.Ok) (bf : Nat) (hbf : Ats w0 F bf 0 [.pointer (some ⟨pb, 0, none⟩)]) (l : List Int) (hlen : l.length = 3) (hl1 : ∀ x ∈ l, -1 ≤ x ∧ x ≤ 10) (hM : Memo w0 p m M) (hs : St w0 w (X ++ (M ++ F))) :
  Con Tryz.prog 49 [ia l, .pointer (some ⟨bf, 0, none⟩)] w fun v w' => v = .agg #[.int .i64 (vain p l), .int .i64 (cut p.farms l)] ∧ ∃ M', Memo w0 p m M' ∧ St w0 w' (X ++ (M' ++ F)) := by
  refine zAu (n := 11) func49 rfl rfl (zNl rfl) ?_
  refine zAg (fun K2 g7 => (zAc (zDu (l := _) zAb rfl rfl rfl hs (fun b3 w4 g8 => ?_))))
  refine zA0 (cs := [_,_]) zAb zeroValue103 rfl g8 (fun b6 w7 g9 => ?_)
  refine zAe (zAd (g7 _ _ (zAg (fun gb ga => (w_drawC (C := fun w => ∃ M, Memo w0 p m M ∧ St w0 w ((b6, blk 103 [.int .i64 0, .int .i64 0]) :: (b3, blk 85 (iv l)) :: (X ++ (M ++ F)))) [7] [(0,1),(1,1),(3,1),(4,1),(2,2),(5,2),(6,0),(7,3)] zB0 (by kernel_rfl) ⟨_, hM, g9⟩ (fun _ ⟨M, h1, h2⟩ => ⟨M, h1, h2.drew⟩) (fun gc ⟨M, hM, g0⟩ => ?_))))))
  refine zCn rfl zAb rfl ⟨_, hM, g0⟩ (fun _ ⟨M, hM, hq⟩ => (zAk isAgg83 hq.tail.tail.drop.drop rfl rfl hbf)) ?_
  refine zCn rfl zAb rfl ⟨_, hM, g0⟩ (fun _ ⟨M, hM, hq⟩ => (zBz (i := 1) isAgg85 sizeOf85 (by first | omega | rfl | (simp only [zL] <;> omega)) hq rfl rfl rfl)) ?_
  refine zCn rfl zAb rfl ⟨_, hM, g0⟩ (fun _ ⟨M, hM, hq⟩ => (zAk isAgg83 hq.tail.tail.drop.drop rfl rfl hbf)) ?_
  refine zCn rfl zAb rfl ⟨_, hM, g0⟩ (fun _ ⟨M, hM, hq⟩ => (zBz (i := 1) isAgg85 sizeOf85 (by first | omega | rfl | (simp only [zL] <;> omega)) hq rfl rfl rfl)) ?_
  refine zBl rfl ?_
  refine zAr zAb call44 rfl rfl rfl rfl (c44 (X := _ :: _ :: X) p _ c m pb hp ha hok l hlen hl1 hM g0) ?_
  rintro _ gd ⟨rfl, M1, g4, g3⟩
  replace g3 := (show St _ _ (_ :: _ :: X ++ (M1 ++ (F))) from g3)
  refine zAe (qn ⟨⟨_, g4, g3⟩, ?_⟩)
  refine zBl rfl ?_
  refine zAr zAb call50 rfl rfl rfl rfl (c50 p _ c m pb hp.app.app.cons.cons ha.app.app.cons.cons hok l hlen hl1 g3) ?_
  rintro _ ge ⟨rfl, g5⟩
  refine zAe (qn ⟨⟨_, g4, g5⟩, ?_⟩)
  refine d_w rfl (fun _ => zBx (ps := [(0, _),(1, _)]) (pv := [(0, .int _ _),(1, .int _ _)]) rfl rfl (fun w => Try_CN_fb7 _ _ w)) rfl ?_
  refine zBm rfl ?_
  refine zAs (i := 0) (v := .agg #[.int _ _, .int _ _]) (vs := [_,_]) zAb sizeOf103 rfl rfl rfl rfl rfl (by simp [Value.oneCell']) g5 rfl (zNl rfl) (fun gf g6 => ?_)
  refine zAe (qn ?_)
  refine zBh ?_
  refine zAd (ga _ _ (zA7 (zBa (l := [.cell 3 103]) (vs := [_]) rfl ⟨⟨rfl, _, rfl, zCo (vs := [_,_]) isAgg103 sizeOf103 g6 (zAl (i := 0) (vs := [_,_]) rfl rfl)⟩, trivial⟩ ?_)))
  exact ⟨rfl, M1, g4, g6.tail.tail⟩

theorem best_perm {x y z u : Nat × Obj} (X M F : List (Nat × Obj)) : (x :: y :: z :: u :: (X ++ (M ++ F))).Perm ((x :: y :: z :: u :: M) ++ (X ++ F)) :=
  (List.Perm.cons x (List.Perm.cons y (List.Perm.cons z (List.Perm.cons u (zAa X M F)))))
theorem c47 {w0 w : World} {X M F : List (Nat × Obj)} (p : Port) (a : Option Addr) (c m pb : Nat) (hp : Ats w0 F pb 0 [.int .i64 p.hold, .int .i64 p.clo, .int .i64 p.chi, .slice a p.farms.length c, .map (some m)]) (ha : Sl w0 F a 6 (rows p.farms)) (hok : p.Ok) (bq bf : Nat) (hbq : Ats w0 F bq 0 [.pointer (some ⟨pb, 0, none⟩)]) (hbf : Ats w0 F bf 0 [.pointer (some ⟨pb, 0, none⟩)]) (hM : Memo w0 p m M) (hs : St w0 w (X ++ (M ++ F))) :
  Con Tryz.prog 47 [.func (.func 76) #[] #[.pointer (some ⟨bq, 0, none⟩)], .func (.func 49) #[] #[.pointer (some ⟨bf, 0, none⟩)]] w fun v w' => v = .tuple #[ia (best p (doP p)).b, .bool (best p (doP p)).found] ∧ ∃ M', Memo w0 p m M' ∧ St w0 w' (X ++ (M' ++ F)) := by
  refine zD7 (n := 26) func47 rfl rfl (zNl rfl) ?_
  refine zAg (fun K2 gm => (zAc (zCj (v := .func _ _ _) (cs := [_]) zAb rfl rfl rfl hs (fun b3 w4 gn => ?_))))
  refine zA0 (cs := iv [0,0,0]) zAb zeroValue85 rfl gn (fun b6 w7 go => ?_)
  refine zA0 (cs := [_]) zAb zeroValue4 rfl go (fun b9 gH gp => ?_)
  refine zAe (zAd (gm _ _ (zAg (fun gI gq => (zAc (zA0 (cs := [_,_]) zAb zeroValue103 rfl gp (fun g6 gJ gr => ?_)))))))
  refine zAe (zAd (gq _ _ (zAg (fun gK gt => (zAg (fun gL gu => (zAc (w_p (zAi (v := .func _ _ _) rfl rfl) rfl (zAe (zAd (gu _ _ (zA8 ?_))))))))))))
  refine w_range (_ :: _ :: _ :: _ :: M) (fun i Bx => ∃ s M', s = bestUpto p (doP p) i ∧ Bx = (g6, blk 103 [.int .i64 s.v, .int .i64 s.c]) :: (b9, blk 4 [.bool s.found]) :: (b6, blk 85 (iv s.b)) :: (b3, blk 104 [.func (.func 49) #[] #[.pointer (some ⟨bf, 0, none⟩)]]) :: M' ∧ Memo w0 p m M') (fun _ _ => False) rfl rfl rfl call76 (does_iter p a c m pb (hp.app (L' := X)) (ha.app (L' := X)) hok bq (hbq.app (L' := X))) gr (best_perm X M F) ⟨⟨false, [0,0,0], 0,0⟩, M, rfl, rfl, hM⟩ ?_ ?_ ?_
  ·
   intro lp i hi Bx Xr Xr2 gM hJ hs K gv
   obtain ⟨s, M1, g0, rfl, g7⟩ := hJ
   have hi2 : i < (doP p).length := by simpa [doP] using hi
   have hslen : s.b.length = 3 := by rw [g0]; exact best_len doP_len i
   rw [List.getElem_map, show ((doC p).map pad)[i]'(by simpa [doP] using hi2) = (doP p)[i] from rfl]
   have hlen := doP_len _ (List.getElem_mem hi2)
   have hl1 := doP_in _ (List.getElem_mem hi2)
   obtain ⟨l, hl⟩ : ∃ l, l = (doP p)[i] := ⟨_, rfl⟩
   rw [← hl] at hlen hl1 ⊢
   replace hs := (show St _ _ (_ :: _ :: _ :: _ :: (M1 ++ (Xr ++ (X ++ F)))) from hs)
   refine zAc (zA0 (cs := iv [0,0,0]) zAb zeroValue85 rfl hs (fun gg gN gw => ?_))
   refine zB6 (i := 0) (l := _) zAb sizeOf85 (by first | omega | rfl | (simp only [hslen, zL] <;> omega)) rfl rfl rfl rfl rfl gw rfl (by first | omega | rfl | (simp only [hslen, zL] <;> omega)) (fun gO gx => ?_)
   refine zAe (zAd (gv _ _ (_ :: _ :: _ :: _ :: _ :: M1) gx (fun gP g4 => ?_)))
   replace g4 := (show St _ _ (_ :: _ :: _ :: _ :: _ :: M1 ++ (Xr2 ++ (X ++ (F)))) from g4)
   refine zA8 ?_
   refine zAg (fun gQ gy => (zAc (w_p (zAk isAgg104 g4 rfl rfl (zAl (i := 4) (vs := [_]) rfl rfl)) rfl (w_p (zBz (i := 0) isAgg85 sizeOf85 (by first | omega | rfl | (simp only [hslen, zL] <;> omega)) g4 rfl rfl rfl) rfl ?_))))
   refine zAr zAb call49 rfl rfl rfl rfl ((c49 (X := _ :: _ :: _ :: _ :: _ :: []) (F := Xr2 ++ (X ++ F)) p _ c m pb (hp.app (L' := X)).app (ha.app (L' := X)).app hok bf (hbf.app (L' := X)).app l hlen hl1 g7 g4)) ?_
   rintro _ gR ⟨rfl, M2, g3, g8⟩
   replace g8 := (show St _ _ (_ :: _ :: _ :: _ :: _ :: M2 ++ (Xr2 ++ (X ++ (F)))) from g8)
   refine zA0 (cs := [_,_]) zAb zeroValue103 rfl g8 (fun gh gS gz => ?_)
   refine zAs (i := 0) (v := .agg #[.int _ _, .int _ _]) (vs := [_,_]) zAb sizeOf103 rfl rfl rfl rfl rfl (by simp [Value.oneCell']) gz rfl (zNl rfl) (fun gT gA => ?_)
   refine zAe (zAd (gy _ _ (zAg (fun gU gi => (zCe [] [(0,1),(1,0),(2,0),(3,0),(4,0),(5,2),(6,0),(7,0)] zB0 (by kernel_rfl) gA (fun gV g5 => ?_))))))
   refine zBb rfl zAb rfl g5 (fun _ hq => (zAk isAgg4 hq rfl rfl (zAl (i := 3) (vs := [_]) rfl rfl))) ?_
   refine d_w rfl (fun _ => zDq rfl rfl) rfl ?_
   refine d_w rfl (fun _ => zAi (v := .bool _) rfl rfl) rfl ?_
   refine zDx (fun g9 => ?_) (fun g9 => ?_)
   ·
    try simp only [zS] at g9
    refine zBr rfl rfl rfl rfl ?_
    refine zBr rfl rfl rfl rfl ?_
    refine zBl rfl ?_
    refine zAj rfl rfl rfl ?_
    refine zAe (qn ⟨g5, ?_⟩)
    refine zBr rfl rfl rfl rfl ?_
    refine d_w rfl (fun _ => zAv (v := _) rfl rfl rfl rfl) rfl ?_
    refine zBh ?_
    refine zAd (gi _ _ (zC0 rfl rfl ?_))
    refine w_drawC (C := fun w => ∃ bc : List Int, bc.length = 3 ∧ St w0 w ((gh, blk 103 [.int .i64 (vain p l), .int .i64 (cut p.farms l)]) :: (gg, blk 85 (iv l)) :: (g6, blk 103 [.int .i64 s.v, .int .i64 s.c]) :: (b9, blk 4 [.bool s.found]) :: (b6, blk 85 (iv bc)) :: (b3, blk 104 [.func (.func 49) #[] #[.pointer (some ⟨bf, 0, none⟩)]]) :: (M2 ++ (Xr2 ++ (X ++ F))))) [3,4] [(0,1),(1,1),(2,2),(3,3),(4,3)] zB0 (by kernel_rfl) ⟨_, (by first | exact hslen | exact hlen | assumption), g5⟩ (fun _ ⟨bc, h1, h2⟩ => ⟨bc, h1, h2.drew⟩) (fun gW ⟨bc, hbc, ga⟩ => ?_)
    refine zCn rfl zAb rfl ⟨_, (by first | exact hslen | exact hlen | assumption), ga⟩ (fun _ ⟨bc, hbc, hq⟩ => (zBz (i := 1) isAgg85 sizeOf85 (by first | omega | rfl | (simp only [hslen, zL] <;> omega)) hq rfl rfl rfl)) ?_
    refine zCn rfl zAb rfl ⟨_, (by first | exact hslen | exact hlen | assumption), ga⟩ (fun _ ⟨bc, hbc, hq⟩ => (zA9 (vs := [_,_]) isAgg103 sizeOf103 hq rfl rfl (zAl (i := 0) (vs := [_,_]) rfl rfl))) ?_
    refine zBl rfl ?_
    refine zB6 (i := 4) (l := _) zAb sizeOf85 (by first | omega | rfl | (simp only [hslen, zL] <;> omega)) rfl rfl rfl rfl rfl ga rfl (by first | omega | rfl | (simp only [hslen, zL] <;> omega)) (fun gX gj => ?_)
    refine zAe (qn ⟨⟨_, (by first | exact hslen | exact hlen | assumption), gj⟩, ?_⟩)
    refine zBm rfl ?_
    refine zAs (i := 2) (v := .agg #[.int _ _, .int _ _]) (vs := [_,_]) zAb sizeOf103 rfl rfl rfl rfl rfl (by simp [Value.oneCell']) gj rfl (zNl rfl) (fun gY gB => ?_)
    refine zAe (qn ?_)
    refine zBm rfl ?_
    refine zAs (i := 3) (v := .bool _) (vs := [_]) zAb sizeOf4 rfl rfl rfl rfl rfl (by simp [Value.oneCell']) gB rfl (zNl rfl) (fun gZ gC => ?_)
    refine zAe (qn ?_)
    refine zBh ?_
    refine zAn (zDk (_ :: _ :: _ :: _ :: M2) gC.tail.tail ?_)
    first
      | exact ⟨⟨true, l, vain p l, cut p.farms l⟩, M2, by rw [zC2 hi2, ← g0, ← hl]; exact (zEo (.inl (by assumption))).symm, rfl, g3⟩
      | exact ⟨⟨true, l, vain p l, cut p.farms l⟩, M2, by rw [zC2 hi2, ← g0, ← hl]; exact (zEo (.inr (by rw [← hz]; exact decide_eq_true (by assumption)))).symm, rfl, g3⟩
      | exact ⟨s, M2, by rw [zC2 hi2, ← g0, ← hl]; exact (zHw (by assumption) (by rw [← hz]; exact decide_eq_false (by omega))).symm, rfl, g3⟩
   try simp only [zS] at g9
   refine zBv rfl (zAp rfl rfl rfl) rfl (fun _ => (zGv underlying103 sizeOf3 rfl rfl)) ?_
   refine zBv rfl (zAp rfl rfl rfl) rfl (fun _ => (zGv underlying103 sizeOf3 rfl rfl)) ?_
   refine zBl rfl ?_
   refine zAr (zAp rfl rfl rfl) call75 rfl rfl rfl rfl (c75 _ _ [_,_] [_,_] _ _ (by simp) (by simp) (zBd (i := 0) (rows := [[_], [_]]) rfl (by simp) rfl) (zBd (i := 2) (rows := [[_], [_]]) rfl (by simp) rfl) g5) ?_
   rintro _ hD ⟨⟨z, rfl, hz⟩, gb⟩
   refine zAe (qn ⟨gb, ?_⟩)
   refine zBv rfl (zAp rfl rfl rfl) rfl (fun _ => (zCl rfl rfl rfl rfl)) ?_
   refine d_w rfl (fun _ => zBg (v := .bool _) rfl rfl rfl rfl) rfl ?_
   refine zBh ?_
   refine zAd (gi _ _ (zA1 rfl rfl (fun gc => ?_) (fun gc => ?_)))
   ·
    try simp only [zS] at gc
    refine w_drawC (C := fun w => ∃ bc : List Int, bc.length = 3 ∧ St w0 w ((gh, blk 103 [.int .i64 (vain p l), .int .i64 (cut p.farms l)]) :: (gg, blk 85 (iv l)) :: (g6, blk 103 [.int .i64 s.v, .int .i64 s.c]) :: (b9, blk 4 [.bool s.found]) :: (b6, blk 85 (iv bc)) :: (b3, blk 104 [.func (.func 49) #[] #[.pointer (some ⟨bf, 0, none⟩)]]) :: (M2 ++ (Xr2 ++ (X ++ F))))) [3,4] [(0,1),(1,1),(2,2),(3,3),(4,3)] zB0 (by kernel_rfl) ⟨_, (by first | exact hslen | exact hlen | assumption), gb⟩ (fun _ ⟨bc, h1, h2⟩ => ⟨bc, h1, h2.drew⟩) (fun hG ⟨bc, hbc, gd⟩ => ?_)
    refine zCn rfl zAb rfl ⟨_, (by first | exact hslen | exact hlen | assumption), gd⟩ (fun _ ⟨bc, hbc, hq⟩ => (zBz (i := 1) isAgg85 sizeOf85 (by first | omega | rfl | (simp only [hslen, zL] <;> omega)) hq rfl rfl rfl)) ?_
    refine zCn rfl zAb rfl ⟨_, (by first | exact hslen | exact hlen | assumption), gd⟩ (fun _ ⟨bc, hbc, hq⟩ => (zA9 (vs := [_,_]) isAgg103 sizeOf103 hq rfl rfl (zAl (i := 0) (vs := [_,_]) rfl rfl))) ?_
    refine zBl rfl ?_
    refine zB6 (i := 4) (l := _) zAb sizeOf85 (by first | omega | rfl | (simp only [hslen, zL] <;> omega)) rfl rfl rfl rfl rfl gd rfl (by first | omega | rfl | (simp only [hslen, zL] <;> omega)) (fun hH gk => ?_)
    refine zAe (qn ⟨⟨_, (by first | exact hslen | exact hlen | assumption), gk⟩, ?_⟩)
    refine zBm rfl ?_
    refine zAs (i := 2) (v := .agg #[.int _ _, .int _ _]) (vs := [_,_]) zAb sizeOf103 rfl rfl rfl rfl rfl (by simp [Value.oneCell']) gk rfl (zNl rfl) (fun hN gD => ?_)
    refine zAe (qn ?_)
    refine zBm rfl ?_
    refine zAs (i := 3) (v := .bool _) (vs := [_]) zAb sizeOf4 rfl rfl rfl rfl rfl (by simp [Value.oneCell']) gD rfl (zNl rfl) (fun hO gE => ?_)
    refine zAe (qn ?_)
    refine zBh ?_
    refine zAn (zDk (_ :: _ :: _ :: _ :: M2) gE.tail.tail ?_)
    first
      | exact ⟨⟨true, l, vain p l, cut p.farms l⟩, M2, by rw [zC2 hi2, ← g0, ← hl]; exact (zEo (.inl (by assumption))).symm, rfl, g3⟩
      | exact ⟨⟨true, l, vain p l, cut p.farms l⟩, M2, by rw [zC2 hi2, ← g0, ← hl]; exact (zEo (.inr (by rw [← hz]; exact decide_eq_true (by assumption)))).symm, rfl, g3⟩
      | exact ⟨s, M2, by rw [zC2 hi2, ← g0, ← hl]; exact (zHw (by assumption) (by rw [← hz]; exact decide_eq_false (by omega))).symm, rfl, g3⟩
   try simp only [zS] at gc
   refine zAx (zAn (zDk (_ :: _ :: _ :: _ :: M2) gb.tail.tail ?_))
   first
     | exact ⟨⟨true, l, vain p l, cut p.farms l⟩, M2, by rw [zC2 hi2, ← g0, ← hl]; exact (zEo (.inl (by assumption))).symm, rfl, g3⟩
     | exact ⟨⟨true, l, vain p l, cut p.farms l⟩, M2, by rw [zC2 hi2, ← g0, ← hl]; exact (zEo (.inr (by rw [← hz]; exact decide_eq_true (by assumption)))).symm, rfl, g3⟩
     | exact ⟨s, M2, by rw [zC2 hi2, ← g0, ← hl]; exact (zHw (by assumption) (by rw [← hz]; exact decide_eq_false (by omega))).symm, rfl, g3⟩
  ·
   intro bd Bx hP hJ hs
   obtain ⟨s, M1, g0, rfl, g7⟩ := hJ
   have hslen : s.b.length = 3 := by rw [g0]; exact best_len doP_len _
   replace hs := (show St _ _ (_ :: _ :: _ :: _ :: _ :: (M1 ++ (X ++ F))) from hs)
   refine zAn (zAd (gt _ _ (zAg (fun hX gF => (zCe [3] [(0,1),(1,1),(2,2),(3,3)] zB0 (by kernel_rfl) hs (fun hY ge => ?_))))))
   refine zBb rfl zAb rfl ge (fun _ hq => (zBz (i := 3) isAgg85 sizeOf85 (by first | omega | rfl | (simp only [hslen, zL] <;> omega)) hq rfl rfl rfl)) ?_
   refine zBb rfl zAb rfl ge (fun _ hq => (zAk isAgg4 hq rfl rfl (zAl (i := 2) (vs := [_]) rfl rfl))) ?_
   refine zBl rfl ?_
   refine zB6 (i := 3) (l := _) zAb sizeOf85 (by first | omega | rfl | (simp only [hslen, zL] <;> omega)) rfl rfl rfl rfl rfl ge rfl (by first | omega | rfl | (simp only [hslen, zL] <;> omega)) (fun j0 gl => ?_)
   refine zAe (qn ⟨gl, ?_⟩)
   refine zBm rfl ?_
   refine zAs (i := 2) (v := .bool _) (vs := [_]) zAb sizeOf4 rfl rfl rfl rfl rfl (by simp [Value.oneCell']) gl rfl (zNl rfl) (fun j1 gG => ?_)
   refine zAe (qn ?_)
   refine zBh ?_
   refine zAd (gF _ _ (zA7 (zFo (i := 0) (l := [.cell 4 85, .cell 5 4]) (vs := [_,_]) gG rfl rfl (fun j2 gf => ⟨⟨⟨rfl, _, rfl, zEr (i := 3) isAgg85 sizeOf85 (by first | omega | rfl | (simp only [hslen, zL] <;> omega)) gf rfl⟩, ⟨rfl, _, rfl, zCi isAgg4 gf (zAl (i := 2) (vs := [_]) rfl rfl)⟩, trivial⟩, ?_⟩))))
   rw [List.length_map, List.length_map] at *
   have hbe : s = best p (doP p) := g0.trans (zH6 (by simp [doP]))
   rw [← hbe]
   exact ⟨rfl, M1, g7, St.perm (L := M1 ++ (X ++ F)) gf.tail.tail.tail.tail.tail (zAa M1 X F)⟩
  intro _ _ _ _ hJ
  exact hJ.elim

end Go.Proofs.Cb
set_option maxRecDepth 20000
namespace Go.Proofs.Cb
open Go.Proofs.Tryz
open Go.Rt Go.Rt.Ca
attribute [local irreducible] WL WC Con Yd At Ats Sl Agree DW
theorem zEb : Tryz.prog.info? 3 = some Tryz.t3 := by kernel_rfl
theorem drop_plan {w0 w : World} {b6 bq b5 pb b1 : Nat × Obj} {M F : List (Nat × Obj)} (h : St w0 w (b6 :: (M ++ (bq :: b5 :: pb :: b1 :: F)))) : St w0 w F := h.tail.drop.tail.tail.tail.tail
theorem zHt {w0 w : World} {bs b6 bq b5 pb b1 : Nat × Obj} {M F : List (Nat × Obj)} (h : St w0 w (bs :: b6 :: (M ++ (bq :: b5 :: pb :: b1 :: F)))) : St w0 w (bs :: F) := by
  have e : bs :: b6 :: (M ++ (bq :: b5 :: pb :: b1 :: F)) = bs :: ((b6 :: (M ++ [bq, b5, pb, b1])) ++ F) := by simp
  rw [e] at h
  exact keep_front h
theorem c19 {w0 w : World} {F : List (Nat × Obj)} (p : Port) (a : Option Addr) (c : Nat) (hl3 : p.farms.length ≤ 9223372036854775807) (hc : p.farms.length ≤ c) (ha : Sl w0 F a 6 (rows p.farms)) (hnm : ∀ f ∈ p.farms, f.name.size ≤ 9223372036854775807)  (hs : St w0 w F) :
  Con Tryz.prog 19 [.agg (p.cells a c).toArray] w fun v w' => ∃ B aq cq, v = .tuple #[.slice aq (planL p).length cq, .int .i64 (planV p), .int .i64 (planE p)] ∧ Sl w0 (B ++ F) aq 1 ((planL p).map fun x => [Value.int .i64 x]) ∧ St w0 w' (B ++ F) := by
  refine zAu (n := 39) func19 rfl rfl (zNl rfl) ?_
  refine zAg (fun K2 gc => (zAc (zCj (v := .agg #[.int _ _, .int _ _, .int _ _, .slice _ _ _]) (cs := [_,_,_,_]) zAb rfl rfl rfl hs (fun b3 w4 ga => ?_))))
  refine zBj rfl rfl (zBj rfl rfl (zBj rfl rfl (zAe (zAd (gc _ _ (zAg (fun K7 gd => (zAg (fun K9 ge => (zAc (w_p (zA9 (vs := [_,_,_,_]) isAgg26 sizeOf26 ga rfl rfl (zAl (i := 0) (vs := [_,_,_,_]) rfl rfl)) rfl ?_)))))))))))
  refine zAr zAb call45 rfl rfl rfl rfl (c45 p _ _ (by omega) (by omega) ha.cons hnm ga) ?_
  rintro _ gw ⟨rfl, g3⟩
  refine w_p (zAi (v := .tuple _) rfl rfl) rfl (w_p (zAh (v := .int _ _) rfl rfl rfl) rfl (w_p (zAh (v := .int _ _) rfl rfl rfl) rfl (w_p (zAh (v := .int _ _) rfl rfl rfl) rfl (zBs rfl rfl (zAe (zAd (ge _ _ (zAg (fun gx gf => (zAc (zBe rfl rfl ?_)))))))))))
  refine w_p (zCv rfl rfl rfl rfl) rfl (zAe (zAd (gf _ _ (zA1 rfl rfl (fun g6 => ?_) (fun g6 => ?_)))))
  ·
   try simp only [zS] at g6
   refine zAg (fun gy gg => (zAc (zBe rfl rfl (zBj rfl rfl (zBj rfl rfl (zBs rfl rfl (zAe (zAd (gg _ _ (zA7 (zAm (zBa (l := [.tmp 2, .tmp 3, .tmp 4]) (vs := [_,_,_]) rfl ⟨⟨rfl, show _ = (.slice _ _ _ : Value) from rfl⟩, ⟨rfl, (rfl : _ = Value.int _ _)⟩, ⟨rfl, (rfl : _ = Value.int _ _)⟩, trivial⟩ ?_))))))))))))
   first
     | (obtain ⟨e1, e2, e3⟩ := plan_e1 (p := p) (by assumption)
        refine ⟨[], none, 0, ?_, ?_, g3.tail⟩
        · rw [e1, e2, e3]; rfl
        · rw [e1]; exact Sl.nil _ _)
     | (obtain ⟨e1, e2, e3⟩ := plan_e2 (p := p) (by assumption) (by assumption)
        refine ⟨[], none, 0, ?_, ?_, drop_plan g3⟩
        · rw [e1, e2, e3]; rfl
        · rw [e1]; exact Sl.nil _ _)
     | (obtain ⟨hpl, e2, e3⟩ := plan_ok (p := p) (by assumption) (by assumption)
        have hlp : (planL p).length = p.farms.length := by rw [hpl, List.length_take]; omega
        have hcs : (best p (doP p)).b.take p.farms.length ++ (List.replicate p.farms.length 0).drop 3 = planL p := by rw [hpl, List.drop_of_length_le (by simp; omega), List.append_nil]
        have hfin := zHt g3
        rw [hcs] at hfin
        refine ⟨[_], _, p.farms.length, ?_, zEq (i := 0) rfl, hfin⟩
        rw [hlp, e2, e3]; rfl)
  try simp only [zS] at g6
  refine zAx (zAd (gd _ _ (zAg (fun gz gh => ?_))))
  have hok := check_ok (by assumption)
  have hlen3 := hok.len
  refine zAc (w_p (zA9 (vs := [_,_,_,_]) isAgg26 sizeOf26 g3 rfl rfl (zAl (i := 0) (vs := [_,_,_,_]) rfl rfl)) rfl (zAr zAb call46 rfl rfl rfl rfl (c46 p _ _ g3) ?_))
  rintro _ gA ⟨m, pb, rfl, gi⟩
  refine zA0 (cs := [_]) zAb zeroValue83 rfl gi (fun g0 gB gj => ?_)
  refine zAs (i := 0) (v := .pointer _) (vs := [_]) zAb sizeOf83 rfl rfl rfl rfl rfl (by simp [Value.oneCell']) gj rfl (zNl rfl) (fun gC gb => ?_)
  refine zAe (zAd (gh _ _ (zAg (fun gD gk => (zAc (w_p (zAk isAgg83 gb rfl rfl (zAl (i := 0) (vs := [_]) rfl rfl)) rfl (zAr zAb call48 rfl rfl rfl rfl (c48 _ gb) ?_)))))))
  rintro _ gE ⟨bq, rfl, gl⟩
  refine w_p (zCa (fv := []) (cv := [_]) rfl rfl rfl rfl) rfl (zAr zAb call47 rfl rfl rfl rfl (c47 (X := []) (M := [_]) (F := ((bq, blk 83 [.pointer (some ⟨pb, 0, none⟩)]) :: (g0, blk 83 [.pointer (some ⟨pb, 0, none⟩)]) :: (pb, blk 128 [.int .i64 p.hold, .int .i64 p.clo, .int .i64 p.chi, .slice a p.farms.length c, .map (some m)]) :: (b3, blk 26 (p.cells a c)) :: F)) p _ c m pb (zAl (i := 2) (vs := [_,_,_,_,_]) rfl rfl) ha.cons.cons.cons.cons hok bq g0 (zAl (i := 0) (vs := [_]) rfl rfl) (zAl (i := 1) (vs := [_]) rfl rfl) (zEg _ _ _) (gl.perm (zAa [_,_] [_] _))) ?_)
  rintro _ gF ⟨rfl, M1, gm, g7⟩
  have hb1 : Ats w0 ((bq, blk 83 [.pointer (some ⟨pb, 0, none⟩)]) :: (g0, blk 83 [.pointer (some ⟨pb, 0, none⟩)]) :: (pb, blk 128 [.int .i64 p.hold, .int .i64 p.clo, .int .i64 p.chi, .slice a p.farms.length c, .map (some m)]) :: (b3, blk 26 (p.cells a c)) :: F) b3 0 (p.cells a c) := zAl (i := 3) (vs := p.cells a c) rfl rfl
  have hb5 : Ats w0 ((bq, blk 83 [.pointer (some ⟨pb, 0, none⟩)]) :: (g0, blk 83 [.pointer (some ⟨pb, 0, none⟩)]) :: (pb, blk 128 [.int .i64 p.hold, .int .i64 p.clo, .int .i64 p.chi, .slice a p.farms.length c, .map (some m)]) :: (b3, blk 26 (p.cells a c)) :: F) g0 0 [.pointer (some ⟨pb, 0, none⟩)] := zAl (i := 1) (vs := [_]) rfl rfl
  have hpx : Ats w0 ((bq, blk 83 [.pointer (some ⟨pb, 0, none⟩)]) :: (g0, blk 83 [.pointer (some ⟨pb, 0, none⟩)]) :: (pb, blk 128 [.int .i64 p.hold, .int .i64 p.clo, .int .i64 p.chi, .slice a p.farms.length c, .map (some m)]) :: (b3, blk 26 (p.cells a c)) :: F) pb 0 [.int .i64 p.hold, .int .i64 p.clo, .int .i64 p.chi, .slice a p.farms.length c, .map (some m)] := zAl (i := 2) (vs := [_,_,_,_,_]) rfl rfl
  replace g7 := (show St _ _ (M1 ++ (_ :: _ :: _ :: _ :: F)) from g7)
  have hb3 := best_len (p := p) (doP_len (p := p)) (doP p).length
  have hbi := best_in (p := p) (doP_in (p := p)) (doP p).length
  rw [zH6 (Nat.le_refl _)] at hb3 hbi
  refine w_p (zAi (v := .tuple _) rfl rfl) rfl (w_p (zAh (v := (ia _)) rfl rfl rfl) rfl (w_p (zAh (v := .bool _) rfl rfl rfl) rfl (zA0 (cs := iv [0,0,0]) zAb zeroValue85 rfl g7 (fun gG gH gn => ?_))))
  refine zB6 (i := 0) (l := _) zAb sizeOf85 (by first | omega | rfl | (simp only [hb3, zL] <;> omega)) rfl rfl rfl rfl rfl gn rfl (by first | omega | rfl | (simp only [hb3, zL] <;> omega)) (fun gI g4 => ?_)
  refine w_p (zAo (v := .bool _) rfl rfl) rfl (zAe (zAd (gk _ _ (zAg (fun gJ go => (zAg (fun gK gp => (zAc (w_p (zAi (v := .bool _) rfl rfl) rfl ?_)))))))))
  refine w_p (zDq rfl rfl) rfl (zAe (zAd (gp _ _ (zA1 rfl rfl (fun g8 => ?_) (fun g8 => ?_)))))
  ·
   try simp only [zS] at g8
   refine zAg (fun gL gq => (zAc (zBj rfl rfl (zBj rfl rfl (zBj rfl rfl (zAe (zAd (gq _ _ (zA7 (zAm (zBa (l := [.tmp 2, .tmp 3, .tmp 4]) (vs := [_,_,_]) rfl ⟨⟨rfl, show _ = (.slice _ _ _ : Value) from rfl⟩, ⟨rfl, (rfl : _ = Value.int _ _)⟩, ⟨rfl, (rfl : _ = Value.int _ _)⟩, trivial⟩ ?_)))))))))))
   first
     | (obtain ⟨e1, e2, e3⟩ := plan_e1 (p := p) (by assumption)
        refine ⟨[], none, 0, ?_, ?_, g4.tail.drop.tail.tail.tail.tail⟩
        · rw [e1, e2, e3]; rfl
        · rw [e1]; exact Sl.nil _ _)
     | (obtain ⟨e1, e2, e3⟩ := plan_e2 (p := p) (by assumption) (by assumption)
        refine ⟨[], none, 0, ?_, ?_, drop_plan g4⟩
        · rw [e1, e2, e3]; rfl
        · rw [e1]; exact Sl.nil _ _)
     | (obtain ⟨hpl, e2, e3⟩ := plan_ok (p := p) (by assumption) (by assumption)
        have hlp : (planL p).length = p.farms.length := by rw [hpl, List.length_take]; omega
        have hcs : (best p (doP p)).b.take p.farms.length ++ (List.replicate p.farms.length 0).drop 3 = planL p := by rw [hpl, List.drop_of_length_le (by simp; omega), List.append_nil]
        have hfin := zHt g4
        rw [hcs] at hfin
        refine ⟨[_], _, p.farms.length, ?_, zEq (i := 0) rfl, hfin⟩
        rw [hlp, e2, e3]; rfl)
  try simp only [zS] at g8
  refine zAx (zAd (go _ _ (zAg (fun gM gr => (zAc (w_p (zAf (o := 3) (i := 2) underlying26 rfl sizeOf24 rfl rfl rfl) rfl (w_p (zAk isAgg24 g4.tail.drop rfl rfl (show Ats _ _ _ _ [_] from Ats.part hb1 3 1)) rfl ?_)))))))
  refine w_p (zBo underlying24 rfl rfl) rfl (w_makeInts (k := p.farms.length) zAb underlying35 zEb rfl rfl (by omega) rfl rfl rfl rfl rfl g4 (fun gN gO gt => ?_))
  refine w_p (zAo (v := .slice _ _ _) rfl rfl) rfl (zAe (zAd (gr _ _ (zAg (fun gP gu => (zAc (w_p (zAi (v := .slice _ _ _) rfl rfl) rfl (w_p (zGv underlying85 sizeOf3 rfl rfl) rfl ?_))))))))
  refine w_copyI (i := 0) zAb underlying35 sizeOf3 rfl rfl rfl rfl gt rfl (zEq (i := 1) rfl) (by first | omega | rfl | (simp only [hb3, zL] <;> omega)) (by first | omega | rfl | (simp only [hb3, zL] <;> omega)) (fun gQ g9 => ?_)
  refine zAe (zAd (gu _ _ (zAg (fun gR gv => (zAc (w_p (zAi (v := .slice _ _ _) rfl rfl) rfl (w_p (zAk isAgg83 g9.tail.tail.drop rfl rfl hb5) rfl (w_p (zBz (i := 1) isAgg85 sizeOf85 (by first | omega | rfl | (simp only [hb3, zL] <;> omega)) g9 rfl rfl rfl) rfl ?_))))))))
  refine zAr zAb call44 rfl rfl rfl rfl (c44 (X := [_,_]) (F := ((bq, blk 83 [.pointer (some ⟨pb, 0, none⟩)]) :: (g0, blk 83 [.pointer (some ⟨pb, 0, none⟩)]) :: (pb, blk 128 [.int .i64 p.hold, .int .i64 p.clo, .int .i64 p.chi, .slice a p.farms.length c, .map (some m)]) :: (b3, blk 26 (p.cells a c)) :: F)) p _ c m pb hpx ha.cons.cons.cons.cons hok _ hb3 hbi gm g9) ?_
  rintro _ gS ⟨rfl, M2, gT, g5⟩
  replace g5 := (show St _ _ (_ :: _ :: M2 ++ (_ :: _ :: _ :: _ :: F)) from g5)
  refine w_p (zAo (v := .slice _ _ _) rfl rfl) rfl (zBs rfl rfl (zBj rfl rfl (zAe (zAd (gv _ _ (zA7 (zBa (l := [.tmp 2, .tmp 3, .tmp 4]) (vs := [_,_,_]) rfl ⟨⟨rfl, show _ = (.slice _ _ _ : Value) from rfl⟩, ⟨rfl, (rfl : _ = Value.int _ _)⟩, ⟨rfl, (rfl : _ = Value.int _ _)⟩, trivial⟩ ?_)))))))
  first
    | (obtain ⟨e1, e2, e3⟩ := plan_e1 (p := p) (by assumption)
       refine ⟨[], none, 0, ?_, ?_, g5.tail.tail.drop.tail.tail.tail.tail⟩
       · rw [e1, e2, e3]; rfl
       · rw [e1]; exact Sl.nil _ _)
    | (obtain ⟨e1, e2, e3⟩ := plan_e2 (p := p) (by assumption) (by assumption)
       refine ⟨[], none, 0, ?_, ?_, drop_plan g5⟩
       · rw [e1, e2, e3]; rfl
       · rw [e1]; exact Sl.nil _ _)
    | (obtain ⟨hpl, e2, e3⟩ := plan_ok (p := p) (by assumption) (by assumption)
       have hlp : (planL p).length = p.farms.length := by rw [hpl, List.length_take]; omega
       have hcs : (best p (doP p)).b.take p.farms.length ++ (List.replicate p.farms.length 0).drop 3 = planL p := by rw [hpl, List.drop_of_length_le (by simp; omega), List.append_nil]
       have hfin := zHt g5
       rw [hcs] at hfin
       refine ⟨[_], _, p.farms.length, ?_, zEq (i := 0) rfl, hfin⟩
       rw [hlp, e2, e3]; rfl)

end Go.Proofs.Cb
