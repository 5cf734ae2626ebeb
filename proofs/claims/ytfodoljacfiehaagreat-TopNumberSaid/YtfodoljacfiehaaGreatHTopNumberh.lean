/- Own texts of this claim, joined. No conditions. -/
import Derived.Test.YtfodoljacfiehaaGreatHTopNumbera
import Derived.Test.YtfodoljacfiehaaGreatHTopNumberb
import Derived.Test.YtfodoljacfiehaaGreatHTopNumberc
import Derived.Test.YtfodoljacfiehaaGreatHTopNumberd
import Derived.Test.YtfodoljacfiehaaGreatHTopNumbere
import Derived.Test.YtfodoljacfiehaaGreatHTopNumberf
import Derived.Test.YtfodoljacfiehaaGreatHTopNumberg
set_option linter.unusedVariables false
set_option linter.unusedSimpArgs false
set_option maxRecDepth 20000
namespace Go.Proofs.Sb
open Go.Proofs.Tryz
open Go.Rt Go.Rt.Sh
attribute [local irreducible] WL WC Con Yd At Ats Sl Agree DW

theorem c70 {w0 w : World} {X M F : List (Nat × Obj)} (m : Market) (p : At3) (mb mm : Nat) (hk : MK w0 F m p mb mm) (x : List Int) (hx : Small x) (sub : Nat) (hM : Memo m mm M) (hs : St w0 w (X ++ (M ++ F))) :
  Con Tryz.prog 70 [.pointer (some ⟨mb, 0, none⟩), ia x, .int .i64 sub] w fun v w' => ∃ B a c M', v = .tuple #[.slice a (worst m x sub).1.length c, .int .i64 (worst m x sub).2] ∧ Sl w0 B a 1 ((worst m x sub).1.map fun x => [Value.int .i64 x]) ∧ Memo m mm M' ∧ St w0 w' (B ++ (X ++ (M' ++ F))) := by
  refine zAo (n := 52) func70 rfl rfl (zNl rfl) ?_
  have hb := hk.b
  have hlr := hk.ok.lr
  have hls := hk.ok.ls
  have hlt := hk.ok.lt
  refine zAf (fun K2 gh => (zAa (zHo (l := _) zAc rfl rfl rfl hs (fun b3 w4 gf => ?_))))
  refine zA9 rfl rfl (zA9 rfl rfl (zAe (zAb (gh _ _ (zAf (fun K7 gi => (zAf (fun K9 gj => (zAa (w_p (zBi rfl rfl) rfl (w_p (zC2 (i := 0) isAgg114 sizeOf114 (by first | omega | rfl | (simp only [hx.1, zB8, zL] <;> omega)) gf rfl rfl rfl) rfl ?_)))))))))))
  refine zA4 zAc call100 rfl rfl rfl rfl (lacks_con (X := (_ :: X)) m p mb mm hk x hx hM gf) ?_
  rintro _ gw ⟨rfl, M13, gk, g7⟩
  replace g7 := (show St _ _ (_ :: X ++ (M13 ++ (F))) from g7)
  refine w_p (zBo (v := _) rfl rfl) rfl (zAe (zAb (gj _ _ (zAw ?_))))
  refine zB2 [6,7,8,9,10,14,15,16,17,18,19,20,21,22,23,24,25,26,27,28,29,30,31,32,33,34,35,36,37,38,39,40,41,42,43,44,45,46,47,48,49] [6,7,14] (fun k vs w => ∃ (b : Nat) (av : Option Addr) (cv : Nat) (B : List (Nat × Obj)), vs = [.slice av (worstTo m.shops.length sub (lacksV m x) b).1.length cv, .int .i64 (worstTo m.shops.length sub (lacksV m x) b).2, .int .i64 b] ∧ b ≤ 16 ∧ k = 16 - b ∧ Sl w0 B av 1 ((worstTo m.shops.length sub (lacksV m x) b).1.map fun x => [Value.int .i64 x]) ∧ St w0 w (B ++ ((b3, blk 114 (iv x)) :: (X ++ (M13 ++ F))))) (16) ?_ ?_
  ·
   exact ⟨0, _,_, [], rfl, by omega, by omega, Sl.nil _ _, g7⟩
  intro k vs μ gx hI gy g3
  obtain ⟨b, av, cv, B, rfl, hba, rfl, hsl, hs⟩ := hI
  refine zAf (fun gz gm => (zAa (w_p (zCb rfl rfl rfl rfl) rfl (zAe (zAb (gm _ _ (zAf (fun gA gn => (zAv rfl rfl (fun g8 => ?_) (fun g8 => ?_))))))))))
  ·
   try simp only [zS] at g8
   refine zAr (zAb (gn _ _ (zAf (fun gB g4 => (zAw ?_)))))
   refine zAf (fun gC gq => ?_)
   have hb16 : b < 16 := by omega
   have hlb := lackB_bound hk.ok hx b
   rw [← lacksV_get hb16] at hlb
   refine zAa (zA2 rfl rfl (w_p (y_indexV (i := b) underlying166 underlying3 sizeOf3 rfl rfl rfl rfl rfl rfl (by omega) (by first | omega | rfl | (simp only [hx.1, zB8, zL] <;> omega))) rfl ?_))
   refine zBg rfl rfl (zBg rfl rfl (zAe (zAb (gq _ _ (zAf (fun gD gr => (zAf (fun gE g9 => (zAa (zA2 rfl rfl (zA2 rfl rfl (w_p (y_andNot (x := b) (y := sub) rfl rfl rfl rfl (by first | rfl | omega) (by first | rfl | omega) (by first | omega | exact zCs (by omega))) rfl ?_))))))))))))
   refine w_p (zCj rfl rfl rfl rfl) rfl (w_p (zAn rfl rfl) rfl (zBk (fun ga => ?_) (fun ga => ?_)))
   ·
    try simp only [zS] at ga
    refine zAg rfl rfl rfl ?_
    refine zAg rfl rfl rfl ?_
    refine w_p (zAt (v := _) rfl rfl rfl rfl) rfl (w_p (zAn rfl rfl) rfl (zAg rfl rfl rfl ?_))
    refine zAg rfl rfl rfl ?_
    refine zAg rfl rfl rfl ?_
    refine w_p (zAt (v := _) rfl rfl rfl rfl) rfl (zAe (zAb (g9 _ _ (zBz rfl rfl ?_))))
    refine zBr (zAj (zAy (zAb (g4 _ _ (zAa (w_p (zBe rfl rfl rfl rfl (by omega) (by omega)) rfl (zA2 rfl rfl (zAe (zAb (g3 _ _ (nxI (16 - (b + 1)) (by omega) ?_)))))))))))
    first
      | exact ⟨b + 1, av, cv, B, by rw [← zCr (by first | exact .inl (by omega) | exact .inr (.inl (by omega)) | exact .inr (.inr (by omega)))]; rfl, by omega, rfl, by rw [← zCr (by first | exact .inl (by omega) | exact .inr (.inl (by omega)) | exact .inr (.inr (by omega)))]; exact hsl, hs⟩
      | (have hq := zDx (n := m.shops.length) (sub := sub) (lk := lacksV m x) (k := b) (by omega) (by omega) (by omega) (by first | exact .inl (by omega) | exact .inr (by assumption))
         exact ⟨b + 1, al1, cl1, B1 ++ B, by rw [← hq]; rfl, by omega, rfl, by rw [← hq]; exact hsl1.top, by rw [List.append_assoc]; exact hs⟩)
      | (have hq := zDp (n := m.shops.length) (sub := sub) (lk := lacksV m x) (k := b) (by omega) (by omega) (by omega) (by omega) (by assumption)
         exact ⟨b + 1, av, cv, B1 ++ B, by rw [← hq]; rfl, by omega, rfl, by rw [← hq]; exact hsl.app, by rw [List.append_assoc]; exact hs⟩)
   try simp only [zS] at ga
   refine w_y rfl rfl rfl (zAu rfl rfl) rfl ?_
   refine w_y rfl rfl rfl (zCb rfl rfl rfl rfl) rfl ?_
   refine w_p (zBb (v := .bool _) rfl rfl rfl rfl) rfl (w_p (zAn rfl rfl) rfl (zBk (fun gb => ?_) (fun gb => ?_)))
   ·
    try simp only [zS] at gb
    refine zAg rfl rfl rfl ?_
    refine zAg rfl rfl rfl ?_
    refine zAg rfl rfl rfl ?_
    refine w_p (zAt (v := _) rfl rfl rfl rfl) rfl (zAe (zAb (g9 _ _ (zBz rfl rfl ?_))))
    refine zBr (zAj (zAy (zAb (g4 _ _ (zAa (w_p (zBe rfl rfl rfl rfl (by omega) (by omega)) rfl (zA2 rfl rfl (zAe (zAb (g3 _ _ (nxI (16 - (b + 1)) (by omega) ?_)))))))))))
    first
      | exact ⟨b + 1, av, cv, B, by rw [← zCr (by first | exact .inl (by omega) | exact .inr (.inl (by omega)) | exact .inr (.inr (by omega)))]; rfl, by omega, rfl, by rw [← zCr (by first | exact .inl (by omega) | exact .inr (.inl (by omega)) | exact .inr (.inr (by omega)))]; exact hsl, hs⟩
      | (have hq := zDx (n := m.shops.length) (sub := sub) (lk := lacksV m x) (k := b) (by omega) (by omega) (by omega) (by first | exact .inl (by omega) | exact .inr (by assumption))
         exact ⟨b + 1, al1, cl1, B1 ++ B, by rw [← hq]; rfl, by omega, rfl, by rw [← hq]; exact hsl1.top, by rw [List.append_assoc]; exact hs⟩)
      | (have hq := zDp (n := m.shops.length) (sub := sub) (lk := lacksV m x) (k := b) (by omega) (by omega) (by omega) (by omega) (by assumption)
         exact ⟨b + 1, av, cv, B1 ++ B, by rw [← hq]; rfl, by omega, rfl, by rw [← hq]; exact hsl.app, by rw [List.append_assoc]; exact hs⟩)
   try simp only [zS] at gb
   refine w_y rfl rfl rfl (zAu rfl rfl) rfl ?_
   refine w_y rfl rfl rfl (zAu rfl rfl) rfl ?_
   refine w_y rfl rfl rfl (zCb rfl rfl rfl rfl) rfl ?_
   refine w_p (zBb (v := .bool _) rfl rfl rfl rfl) rfl (zAe (zAb (g9 _ _ (zAv rfl rfl (fun gc => ?_) (fun gc => ?_)))))
   ·
    try simp only [zS] at gc
    refine zBr (zAj (zAy (zAb (g4 _ _ (zAa (w_p (zBe rfl rfl rfl rfl (by omega) (by omega)) rfl (zA2 rfl rfl (zAe (zAb (g3 _ _ (nxI (16 - (b + 1)) (by omega) ?_)))))))))))
    first
      | exact ⟨b + 1, av, cv, B, by rw [← zCr (by first | exact .inl (by omega) | exact .inr (.inl (by omega)) | exact .inr (.inr (by omega)))]; rfl, by omega, rfl, by rw [← zCr (by first | exact .inl (by omega) | exact .inr (.inl (by omega)) | exact .inr (.inr (by omega)))]; exact hsl, hs⟩
      | (have hq := zDx (n := m.shops.length) (sub := sub) (lk := lacksV m x) (k := b) (by omega) (by omega) (by omega) (by first | exact .inl (by omega) | exact .inr (by assumption))
         exact ⟨b + 1, al1, cl1, B1 ++ B, by rw [← hq]; rfl, by omega, rfl, by rw [← hq]; exact hsl1.top, by rw [List.append_assoc]; exact hs⟩)
      | (have hq := zDp (n := m.shops.length) (sub := sub) (lk := lacksV m x) (k := b) (by omega) (by omega) (by omega) (by omega) (by assumption)
         exact ⟨b + 1, av, cv, B1 ++ B, by rw [← hq]; rfl, by omega, rfl, by rw [← hq]; exact hsl.app, by rw [List.append_assoc]; exact hs⟩)
   try simp only [zS] at gc
   refine zAr (zAb (gr _ _ (zAf (fun gF gt => ?_))))
   have hle1 := zDm b m.shops.length
   have hle2 := worstTo_len m.shops.length sub (lacksV m x) b
   refine zAa (zA2 rfl rfl (w_p (zBi rfl rfl) rfl (w_p (zBl rfl rfl) rfl (w_p (zAd (o := 0) (i := 0) underlying146 rfl sizeOf26 rfl rfl rfl) rfl (w_p (zAd (o := 1) (i := 1) underlying26 rfl sizeOf23 rfl rfl rfl) rfl ?_)))))
   refine w_p (zAi isAgg23 hs.drop.tail.drop.drop rfl rfl (show Ats _ _ _ _ [_] from Ats.part hb 1 1)) rfl (w_p (zBd underlying23 rfl rfl) rfl (zA4 zAc call79 rfl rfl rfl rfl (c79 _ _ (by omega) (by omega) hs) ?_))
   rintro _ gG ⟨B1, al1, cl1, rfl, hsl1, g5⟩
   replace g5 := (show St _ _ (B1 ++ (B ++ (_ :: X ++ (M13 ++ (F))))) from g5)
   refine w_p (zBh rfl rfl) rfl (zAe (zAb (gt _ _ (zAf (fun gH gg => (zAa (zA2 rfl rfl (zA2 rfl rfl (w_p (zD5 rfl rfl rfl rfl) rfl (w_p (zAn rfl rfl) rfl ?_))))))))))
   refine zBk (fun gd => ?_) (fun gd => ?_)
   ·
    try simp only [zS] at gd
    refine zAg rfl rfl rfl ?_
    refine zAg rfl rfl rfl ?_
    refine zAg rfl rfl rfl ?_
    refine w_p (zAt (v := _) rfl rfl rfl rfl) rfl (zAe (zAb (gg _ _ (zBz rfl rfl ?_))))
    refine zAa (w_p (zAx rfl rfl) rfl (zA2 rfl rfl (w_p (zBh rfl rfl) rfl (zBg rfl rfl (zAe (zAk (zAb (g4 _ _ (zAa (w_p (zBe rfl rfl rfl rfl (by omega) (by omega)) rfl ?_))))))))))
    refine zA2 rfl rfl (zAe (zAb (g3 _ _ (nxI (16 - (b + 1)) (by omega) ?_))))
    first
      | exact ⟨b + 1, av, cv, B, by rw [← zCr (by first | exact .inl (by omega) | exact .inr (.inl (by omega)) | exact .inr (.inr (by omega)))]; rfl, by omega, rfl, by rw [← zCr (by first | exact .inl (by omega) | exact .inr (.inl (by omega)) | exact .inr (.inr (by omega)))]; exact hsl, g5⟩
      | (have hq := zDx (n := m.shops.length) (sub := sub) (lk := lacksV m x) (k := b) (by omega) (by omega) (by omega) (by first | exact .inl (by omega) | exact .inr (by assumption))
         exact ⟨b + 1, al1, cl1, B1 ++ B, by rw [← hq]; rfl, by omega, rfl, by rw [← hq]; exact hsl1.top, by rw [List.append_assoc]; exact g5⟩)
      | (have hq := zDp (n := m.shops.length) (sub := sub) (lk := lacksV m x) (k := b) (by omega) (by omega) (by omega) (by omega) (by assumption)
         exact ⟨b + 1, av, cv, B1 ++ B, by rw [← hq]; rfl, by omega, rfl, by rw [← hq]; exact hsl.app, by rw [List.append_assoc]; exact g5⟩)
   try simp only [zS] at gd
   refine w_y rfl rfl rfl (zAx rfl rfl) rfl ?_
   refine w_y rfl rfl rfl (zAx rfl rfl) rfl ?_
   refine zA4 (zAm rfl rfl rfl) call80 rfl rfl rfl rfl (c80 _ _ _ _ _ _ (by omega) (by omega) hsl1.top hsl.top.app g5) ?_
   rintro _ gI ⟨rfl, g6⟩
   refine w_p (zBb (v := .bool _) rfl rfl rfl rfl) rfl (zAe (zAb (gg _ _ (zAv rfl rfl (fun ge => ?_) (fun ge => ?_)))))
   ·
    try simp only [zS] at ge
    refine zAa (w_p (zAx rfl rfl) rfl (zA2 rfl rfl (w_p (zBh rfl rfl) rfl (zBg rfl rfl (zAe (zAk (zAb (g4 _ _ (zAa (w_p (zBe rfl rfl rfl rfl (by omega) (by omega)) rfl ?_))))))))))
    refine zA2 rfl rfl (zAe (zAb (g3 _ _ (nxI (16 - (b + 1)) (by omega) ?_))))
    first
      | exact ⟨b + 1, av, cv, B, by rw [← zCr (by first | exact .inl (by omega) | exact .inr (.inl (by omega)) | exact .inr (.inr (by omega)))]; rfl, by omega, rfl, by rw [← zCr (by first | exact .inl (by omega) | exact .inr (.inl (by omega)) | exact .inr (.inr (by omega)))]; exact hsl, g6⟩
      | (have hq := zDx (n := m.shops.length) (sub := sub) (lk := lacksV m x) (k := b) (by omega) (by omega) (by omega) (by first | exact .inl (by omega) | exact .inr (by assumption))
         exact ⟨b + 1, al1, cl1, B1 ++ B, by rw [← hq]; rfl, by omega, rfl, by rw [← hq]; exact hsl1.top, by rw [List.append_assoc]; exact g6⟩)
      | (have hq := zDp (n := m.shops.length) (sub := sub) (lk := lacksV m x) (k := b) (by omega) (by omega) (by omega) (by omega) (by assumption)
         exact ⟨b + 1, av, cv, B1 ++ B, by rw [← hq]; rfl, by omega, rfl, by rw [← hq]; exact hsl.app, by rw [List.append_assoc]; exact g6⟩)
   try simp only [zS] at ge
   refine zAr (zAk (zAb (g4 _ _ (zAa (w_p (zBe rfl rfl rfl rfl (by omega) (by omega)) rfl (zA2 rfl rfl (zAe (zAb (g3 _ _ (nxI (16 - (b + 1)) (by omega) ?_))))))))))
   first
     | exact ⟨b + 1, av, cv, B, by rw [← zCr (by first | exact .inl (by omega) | exact .inr (.inl (by omega)) | exact .inr (.inr (by omega)))]; rfl, by omega, rfl, by rw [← zCr (by first | exact .inl (by omega) | exact .inr (.inl (by omega)) | exact .inr (.inr (by omega)))]; exact hsl, g6⟩
     | (have hq := zDx (n := m.shops.length) (sub := sub) (lk := lacksV m x) (k := b) (by omega) (by omega) (by omega) (by first | exact .inl (by omega) | exact .inr (by assumption))
        exact ⟨b + 1, al1, cl1, B1 ++ B, by rw [← hq]; rfl, by omega, rfl, by rw [← hq]; exact hsl1.top, by rw [List.append_assoc]; exact g6⟩)
     | (have hq := zDp (n := m.shops.length) (sub := sub) (lk := lacksV m x) (k := b) (by omega) (by omega) (by omega) (by omega) (by assumption)
        exact ⟨b + 1, av, cv, B1 ++ B, by rw [← hq]; rfl, by omega, rfl, by rw [← hq]; exact hsl.app, by rw [List.append_assoc]; exact g6⟩)
  try simp only [zS] at g8
  refine zBr (zAj (zAj (zAy (zAb (gi _ _ (zAf (fun gJ gu => (zAa (w_p (zAx rfl rfl) rfl (zA2 rfl rfl (w_p (zBh rfl rfl) rfl ?_)))))))))))
  refine zBg rfl rfl (zAe (zAb (gu _ _ (zA0 (zA1 (l := [.tmp 6, .tmp 7]) (vs := [_,_]) rfl ⟨⟨rfl, show _ = (.slice _ _ _ : Value) from rfl⟩, ⟨rfl, (rfl : _ = Value.int _ _)⟩, trivial⟩ ?_)))))
  have hb16 : b = 16 := by omega
  subst hb16
  exact ⟨B ++ [_], av, cv, M13, rfl, hsl.top, gk, by rw [List.append_assoc]; exact hs⟩

theorem c69 {w0 w : World} {X M F : List (Nat × Obj)} (m : Market) (p : At3) (mb mm : Nat) (hk : MK w0 F m p mb mm) (x : List Int) (hx : Small x) (sub : Nat) (hM : Memo m mm M) (hs : St w0 w (X ++ (M ++ F))) :
  Con Tryz.prog 69 [.pointer (some ⟨mb, 0, none⟩), ia x, .int .i64 sub] w fun v w' => v = .bool (servedS m x sub) ∧ ∃ M', Memo m mm M' ∧ St w0 w' (X ++ (M' ++ F)) := by
  refine zAo (n := 18) func69 rfl rfl (zNl rfl) ?_
  refine zAf (fun K2 g5 => (zAa (zHo (l := _) zAc rfl rfl rfl hs (fun b3 w4 g4 => ?_))))
  refine zA9 rfl rfl (zAe (zAb (g5 _ _ (zAf (fun K7 g6 => (zAa (w_p (zBi rfl rfl) rfl (w_p (zC2 (i := 0) isAgg114 sizeOf114 (by first | omega | rfl | (simp only [hx.1, zL] <;> omega)) g4 rfl rfl rfl) rfl ?_))))))))
  refine zA2 rfl rfl (zA4 zAc call70 rfl rfl rfl rfl (c70 (X := (_ :: X)) m p mb mm hk x hx sub hM g4) ?_)
  rintro _ w9 ⟨g7, al_B12, cl_B12, M11, rfl, hsl_B12, g8, g3⟩
  replace g3 := (show St _ _ (g7 ++ (_ :: X ++ (M11 ++ (F)))) from g3)
  refine w_p (zA6 rfl rfl) rfl (w_p (zCm rfl rfl rfl) rfl (w_p (zAq rfl rfl rfl) rfl (w_p (zBh rfl rfl) rfl (zBg rfl rfl (zAe (zAb (g6 _ _ (zAf (fun ga g9 => (zAa (zA2 rfl rfl ?_)))))))))))
  refine w_p (zCk rfl rfl rfl rfl) rfl (w_p (zAl rfl rfl) rfl (zAe (zAb (g9 _ _ (zA0 (zA1 (l := [.tmp 6]) (vs := [_]) rfl ⟨⟨rfl, (rfl : _ = Value.bool _)⟩, trivial⟩ ?_))))))
  exact ⟨rfl, M11, g8, g3.drop.tail⟩

end Go.Proofs.Sb
set_option maxRecDepth 20000
namespace Go.Proofs.Sb
open Go.Proofs.Tryz
open Go.Rt Go.Rt.Sh
attribute [local irreducible] WL WC Con Yd At Ats Sl Agree DW
theorem Try_SH_fb2 (x0 : Int) (w : World) : (Instr.buildSlice 30 1 [(0, .int .i64 x0)].toArray).run Tryz.prog w = .ok (.slice (some ⟨w.heap.size, 0, none⟩) 1 1) (w.alloc (Go.Rt.blk 3 [.int .i64 x0])) := by kernel_rfl
theorem zC1 {m : Market} {n : Int} {l : List Int} (h : enterE m n l = 0) : (check m).2.2 = 0 := (zGw h).1
theorem someE_enter {m : Market} {l : List Int} (h : someE m l = 0) : enterE m m.shops.length l = 0 := by
  unfold someE at h
  by_cases h1 : enterE m m.shops.length l = 0
  · exact h1
  · rw [if_pos h1] at h; exact absurd h h1
theorem zG8 {m : Market} {l : List Int} (h : enterE m m.shops.length l ≠ 0) : someE m l = enterE m m.shops.length l := by unfold someE; rw [if_pos h]
theorem zG7 {m : Market} {l : List Int} (h : enterE m m.shops.length l = 0) (h2 : orBits 0 l = none) : someE m l = 2 := by unfold someE; rw [if_neg (by simp [h]), h2]
theorem someE_0 {m : Market} {l : List Int} {s : Nat} (h : enterE m m.shops.length l = 0) (h2 : orBits 0 l = some s) : someE m l = 0 ∧ someS l = s := by unfold someE someS; rw [if_neg (by simp [h]), h2]; exact ⟨rfl, rfl⟩
theorem zCt {P : Program} {a : Act} {o : Oper} {w : World} {k : IntKind} {z z' : Int} (h : z = z') (hy : Yd P a o w (.int k z)) : Yd P a o w (.int k z') := h ▸ hy
theorem shl_small {x : Nat} (h : x < 4) : 1 <<< x < 16 := by
  match x, h with
  | 0, _ => decide
  | 1, _ => decide
  | 2, _ => decide
  | 3, _ => decide
theorem shl_all {x : Nat} (h : x ≤ 4) : 1 ≤ 1 <<< x ∧ 1 <<< x ≤ 16 := by
  match x, h with
  | 0, _ => decide
  | 1, _ => decide
  | 2, _ => decide
  | 3, _ => decide
  | 4, _ => decide
theorem eq2 {w0 w : World} {B M F : List (Nat × Obj)} {x y : Nat × Obj} (h : St w0 w (B ++ (M ++ (x :: y :: F)))) : St w0 w ((B ++ (M ++ [x, y])) ++ F) := by
  have e : (B ++ (M ++ [x, y])) ++ F = B ++ (M ++ (x :: y :: F)) := by rw [List.append_assoc, List.append_assoc]; rfl
  rw [e]; exact h
theorem zEi {v : Value} {l : List Int} {z : Int} {B : List (Nat × Obj)} (h : Rt.Own v 3 1 (l.length + 1) (iv l ++ [[Value.int .i64 z]].flatten) B) : Rt.Own v 3 1 (l ++ [z]).length (iv (l ++ [z])) B := by simpa [iv] using h
theorem zHb {s y : Nat} (h : (0:Int) < ((s >>> y : Nat) : Int)) : 0 < s >>> y := by omega
theorem not_pos_shr {s y : Nat} (h : ((s >>> y : Nat) : Int) ≤ 0) : ¬ 0 < s >>> y := by omega
theorem zDl {m : Market} {b : Nat} (h1 : before (listL b m.shops.length) (withoutTo m b) = true) (h2 : servedS m (allX m false) (bitDiff (1 <<< m.shops.length - 1) b) = true) : listL b m.shops.length = withoutTo m (b + 1) := by
  simp only [withoutTo, withoutStep]; rw [h1, h2]; rfl
theorem zD7 {m : Market} {b : Nat} (h1 : before (listL b m.shops.length) (withoutTo m b) = false) : withoutTo m b = withoutTo m (b + 1) := by
  simp only [withoutTo, withoutStep]; rw [h1]; rfl
theorem zD6 {m : Market} {b : Nat} (h2 : servedS m (allX m false) (bitDiff (1 <<< m.shops.length - 1) b) = false) : withoutTo m b = withoutTo m (b + 1) := by
  simp only [withoutTo, withoutStep]; rw [h2, Bool.and_false]; rfl
theorem c68 {w0 w : World} {F : List (Nat × Obj)} (m : Market) (p : At3) (hm : MIn w0 F m p) (al : Option Addr) (cl : Nat) (l : List Int) (hll : l.length ≤ 9223372036854775807) (hl : Sl w0 F al 1 (l.map fun x => [Value.int .i64 x]))  (hs : St w0 w F) :
  Con Tryz.prog 68 [.agg (m.cells p).toArray, .slice al l.length cl] w fun v w' => (someE m l ≠ 0 ∧ v = .tuple #[.pointer none, .int .i64 0, .int .i64 (someE m l)] ∧ St w0 w' F) ∨ (someE m l = 0 ∧ ∃ mb mm M, v = .tuple #[.pointer (some ⟨mb, 0, none⟩), .int .i64 (someS l : Nat), .int .i64 0] ∧ Memo m mm M ∧ St w0 w' (M ++ ((mb, blk 146 [.slice p.ar m.rooms.length p.cr, .slice p.az m.shops.length p.cs, .slice p.at_ m.trains.length p.ct, .map (some mm)]) :: F))) := by
  refine zAo (n := 38) func68 rfl rfl (zNl rfl) ?_
  have hls := hm.ls
  refine zAf (fun K2 g9 => (zAa (zCd (v := .agg #[.slice _ _ _, .slice _ _ _, .slice _ _ _]) (cs := [_,_,_]) zAc rfl rfl rfl hs (fun b3 w4 g5 => ?_))))
  refine zA9 rfl rfl (zA9 rfl rfl (zA9 rfl rfl (zAe (zAb (g9 _ _ (zAf (fun K7 g8 => (zAa (w_p (zAs (vs := [_,_,_]) isAgg26 sizeOf26 g5 rfl rfl (aow 0 [_,_,_])) rfl ?_)))))))))
  refine w_p (zAd (o := 1) (i := 1) underlying26 rfl sizeOf23 rfl rfl rfl) rfl (w_p (zAi isAgg23 g5 rfl rfl (aow 0 [_])) rfl (w_p (zBd underlying23 rfl rfl) rfl (w_p (zAx rfl rfl) rfl ?_)))
  refine zA4 zAc call45 rfl rfl rfl rfl (c45 m p hm.cons _ (by omega) (by omega) _ _ l hll hl.cons g5) ?_
  rintro _ w9 (⟨hee, rfl, g3⟩ | ⟨hee, mb, mm, M, rfl, hM, g3⟩)
  ·
   refine w_p (zA6 rfl rfl) rfl (w_p (zBy rfl rfl rfl) rfl (w_p (zAq rfl rfl rfl) rfl (w_p (zBu rfl rfl) rfl (zBg rfl rfl (zAe (zAb (g8 _ _ (zAf (fun gu gw => (zAf (fun gx ga => (zAa (zA2 rfl rfl ?_)))))))))))))
   refine w_p (zCj rfl rfl rfl rfl) rfl (zAe (zAb (ga _ _ (zAv rfl rfl (fun g4 => ?_) (fun g4 => ?_)))))
   ·
    try simp only [zS] at g4
    refine zAf (fun gy gb => (zAa (zA2 rfl rfl (zA9 rfl rfl (zA9 rfl rfl (zBg rfl rfl (zAe (zAb (gb _ _ (zA0 (zAh (zA1 (l := [.tmp 4, .tmp 5, .tmp 6]) (vs := [_,_,_]) rfl ⟨⟨rfl, show _ = (.pointer _ : Value) from rfl⟩, ⟨rfl, (rfl : _ = Value.int _ _)⟩, ⟨rfl, (rfl : _ = Value.int _ _)⟩, trivial⟩ ?_))))))))))))
    first
      | exact .inl ⟨by rw [zG8 hee]; exact hee, by rw [zG8 hee]; rfl, g3.tail⟩
      | exact .inl ⟨by rw [zG7 hee (by rw [hob]; exact zEf hi2 (zHb (by assumption)))]; decide, by rw [zG7 hee (by rw [hob]; exact zEf hi2 (zHb (by assumption)))]; rfl, g3.tail⟩
      | (have hq := someE_0 hee (hob.trans (zHc (by omega)))
         exact .inr ⟨hq.1, mb, mm, M, by rw [hq.2]; rfl, hM, zFx g3⟩)
   exfalso
   try simp only [zS] at g4
   first | exact hee g4 | exact g4 hee
  replace g3 := (show St _ _ (M ++ (_ :: _ :: F)) from g3)
  have hk : MK w0 ((mb, blk 146 [.slice p.ar m.rooms.length p.cr, .slice p.az m.shops.length p.cs, .slice p.at_ m.trains.length p.ct, .map (some mm)]) :: (b3, blk 26 (m.cells p)) :: F) m p mb mm := ⟨hm.cons.cons, zBm (i := 0) (vs := [_,_,_,_]) rfl rfl, check_ok (zC1 hee)⟩
  have hlr := hk.ok.lr
  have hls := hk.ok.ls
  have hlt := hk.ok.lt
  have hbx : Ats w0 ((b3, blk 26 (m.cells p)) :: F) b3 0 (m.cells p) := zBm (i := 0) rfl rfl
  refine w_p (zA6 rfl rfl) rfl (w_p (zBy rfl rfl rfl) rfl (w_p (zAq rfl rfl rfl) rfl (w_p (zBu rfl rfl) rfl (zBg rfl rfl (zAe (zAb (g8 _ _ (zAf (fun gz gc => (zAf (fun gA gd => (zAa (zA2 rfl rfl ?_)))))))))))))
  refine w_p (zCj rfl rfl rfl rfl) rfl (zAe (zAb (gd _ _ (zBj rfl rfl ?_))))
  refine zAr (zAb (gc _ _ (zAf (fun gB ge => (zAf (fun gC gf => (zAa (w_p (zAx rfl rfl) rfl (w_p (zBd underlying30 rfl rfl) rfl (w_p (zBo (v := _) rfl rfl) rfl ?_))))))))))
  refine zAe (zAb (gf _ _ (zAw ?_)))
  refine zB2 [4,5,6,8,23,24,25,26,27,28,29,30,31,32,33,34,35] [4,5,23] (fun k vs w => ∃ i s : Nat, vs = [.pointer (some ⟨mb, 0, none⟩), .int .i64 s, .int .i64 i] ∧ s < 16 ∧ i ≤ l.length ∧ k = l.length - i ∧ orBits 0 l = orBits s (l.drop i) ∧ St w0 w (M ++ ((mb, blk 146 [.slice p.ar m.rooms.length p.cr, .slice p.az m.shops.length p.cs, .slice p.at_ m.trains.length p.ct, .map (some mm)]) :: (b3, blk 26 (m.cells p)) :: F))) (l.length) ?_ ?_
  ·
   exact ⟨0,0, rfl, by omega, by omega, by omega, rfl, g3⟩
  intro k vs μ gD hI gE gg
  obtain ⟨i, s, rfl, gh, hia, rfl, hob, hs⟩ := hI
  refine zAf (fun gF gi => (zAa (w_p (zCb rfl rfl rfl rfl) rfl (zAe (zAb (gi _ _ (zAf (fun gG gj => (zAv rfl rfl (fun g6 => ?_) (fun g6 => ?_))))))))))
  ·
   try simp only [zS] at g6
   refine zAr (zAb (gj _ _ (zAf (fun gH gk => (zAw ?_)))))
   refine zAf (fun gI gm => ?_)
   have hi2 : i < l.length := by omega
   obtain ⟨bl, ol, hbl, hxl⟩ := zCy hl.cons.cons.app hi2
   subst hbl
   have hin := (zGw hee).2 _ (List.getElem_mem hi2)
   have hsm := shl_small (x := (l[i]'hi2).toNat) (by omega)
   refine zAa (w_p (zA7 underlying30 sizeOf3 rfl rfl rfl rfl (i := _) rfl (by omega)) rfl (w_p (zAi isAgg3 hs rfl rfl hxl) rfl (zBg rfl rfl (zAe (zAb (gm _ _ (zAf (fun gJ gn => (zAf (fun gK gq => (zAa (zA2 rfl rfl ?_))))))))))))
   refine zA2 rfl rfl (w_p (y_shr (x := _) (y := (l[i]'hi2).toNat) rfl rfl rfl rfl rfl (by first | rfl | omega) (by first | omega | exact zCs (by omega))) rfl ?_)
   refine w_p (zD5 rfl rfl rfl rfl) rfl (zAe (zAb (gq _ _ (zAv rfl rfl (fun g7 => ?_) (fun g7 => ?_)))))
   ·
    try simp only [zS] at g7
    refine zAf (fun gL gr => (zAa (zA9 rfl rfl (zA9 rfl rfl (zA9 rfl rfl (zAe (zAb (gr _ _ (zA0 (zAh (zAz (zAh (zAh (zAz (zAh (zA1 (l := [.tmp 4, .tmp 5, .tmp 6]) (vs := [_,_,_]) rfl ⟨⟨rfl, show _ = (.pointer _ : Value) from rfl⟩, ⟨rfl, (rfl : _ = Value.int _ _)⟩, ⟨rfl, (rfl : _ = Value.int _ _)⟩, trivial⟩ ?_))))))))))))))))
    first
      | exact .inl ⟨by rw [zG8 hee]; exact hee, by rw [zG8 hee]; rfl, hs.drop.tail.tail⟩
      | exact .inl ⟨by rw [zG7 hee (by rw [hob]; exact zEf hi2 (zHb (by assumption)))]; decide, by rw [zG7 hee (by rw [hob]; exact zEf hi2 (zHb (by assumption)))]; rfl, hs.drop.tail.tail⟩
      | (have hq := someE_0 hee (hob.trans (zHc (by omega)))
         exact .inr ⟨hq.1, mb, mm, M, by rw [hq.2]; rfl, hM, zFx hs⟩)
   try simp only [zS] at g7
   refine zAr (zAb (gn _ _ (zAa (zA2 rfl rfl (zA2 rfl rfl (w_p (y_shl (x := 1) (y := (l[i]'hi2).toNat) rfl rfl rfl rfl rfl (by first | rfl | omega) (by first | omega | exact zCs (by omega)) (by first | omega | exact zCs (by omega))) rfl ?_))))))
   refine w_p (y_or (x := _) (y := _) rfl rfl rfl rfl rfl rfl (by first | omega | exact zCs (by omega)) (by first | omega | exact zCs (by omega))) rfl ?_
   refine zBg rfl rfl (zAe (zAk (zAb (gk _ _ (zAa (w_p (zBe rfl rfl rfl rfl (by omega) (by omega)) rfl (zA2 rfl rfl (zAe (zAb (gg _ _ (nxI (l.length - (i + 1)) (by omega) ?_)))))))))))
   exact ⟨i + 1, _, rfl, or_small gh (by omega), by omega, rfl, by rw [hob]; exact orBits_step hi2 (not_pos_shr (by assumption)), hs⟩
  try simp only [zS] at g6
  refine zBr (zAj (zAj (zAy (zAb (ge _ _ (zAf (fun gM gt => (zAa (w_p (zBi rfl rfl) rfl (zA2 rfl rfl (w_p (zBu rfl rfl) rfl ?_)))))))))))
  refine zBg rfl rfl (zA9 rfl rfl (zAe (zAb (gt _ _ (zA0 (zA1 (l := [.tmp 4, .tmp 5, .tmp 6]) (vs := [_,_,_]) rfl ⟨⟨rfl, show _ = (.pointer _ : Value) from rfl⟩, ⟨rfl, (rfl : _ = Value.int _ _)⟩, ⟨rfl, (rfl : _ = Value.int _ _)⟩, trivial⟩ ?_))))))
  first
    | exact .inl ⟨by rw [zG8 hee]; exact hee, by rw [zG8 hee]; rfl, hs.drop.tail.tail⟩
    | exact .inl ⟨by rw [zG7 hee (by rw [hob]; exact zEf hi2 (zHb (by assumption)))]; decide, by rw [zG7 hee (by rw [hob]; exact zEf hi2 (zHb (by assumption)))]; rfl, hs.drop.tail.tail⟩
    | (have hq := someE_0 hee (hob.trans (zHc (by omega)))
       exact .inr ⟨hq.1, mb, mm, M, by rw [hq.2]; rfl, hM, zFx hs⟩)

theorem c35 {w0 w : World} {F : List (Nat × Obj)} (m : Market) (p : At3) (hm : MIn w0 F m p) (al : Option Addr) (cl : Nat) (l : List Int) (hll : l.length ≤ 9223372036854775807) (hl : Sl w0 F al 1 (l.map fun x => [Value.int .i64 x]))  (hs : St w0 w F) :
  Con Tryz.prog 35 [.agg (m.cells p).toArray, .slice al l.length cl] w fun v w' => v = .tuple #[.int .i64 (canP m l).1, .int .i64 (canP m l).2] ∧ St w0 w' F := by
  refine zAo (n := 32) func35 rfl rfl (zNl rfl) ?_
  refine zAf (fun K2 gb => (zAa (zCd (v := .agg #[.slice _ _ _, .slice _ _ _, .slice _ _ _]) (cs := [_,_,_]) zAc rfl rfl rfl hs (fun b3 w4 g9 => ?_))))
  refine zA9 rfl rfl (zA9 rfl rfl (zAe (zAb (gb _ _ (zAf (fun K7 ga => (zAa (w_p (zAs (vs := [_,_,_]) isAgg26 sizeOf26 g9 rfl rfl (aow 0 [_,_,_])) rfl (w_p (zAx rfl rfl) rfl ?_)))))))))
  refine zA4 zAc call68 rfl rfl rfl rfl (c68 m p hm.cons _ _ l hll hl.cons g9) ?_
  rintro _ w9 (⟨hee, rfl, g5⟩ | ⟨hee, mb, mm, M, rfl, hM, g5⟩)
  ·
   refine w_p (zA6 rfl rfl) rfl (w_p (zBy rfl rfl rfl) rfl (w_p (zAq rfl rfl rfl) rfl (w_p (zAq rfl rfl rfl) rfl (w_p (zBu rfl rfl) rfl (zBg rfl rfl (zBg rfl rfl (zAe (zAb (ga _ _ (zAf (fun gr gt => (zAw ?_))))))))))))
   refine zAf (fun gu gc => (zAa (zA2 rfl rfl (w_p (zCj rfl rfl rfl rfl) rfl (w_p (zAl rfl rfl) rfl (zAe (zAb (gc _ _ (zAv rfl rfl (fun g3 => ?_) (fun g3 => ?_))))))))))
   ·
    try simp only [zS] at g3
    refine zAf (fun gw gd => (zAa (zA2 rfl rfl (zA9 rfl rfl (zBg rfl rfl (zAe (zAb (gd _ _ (zA0 (zAz (zAh (zA1 (l := [.tmp 4, .tmp 5]) (vs := [_,_]) rfl ⟨⟨rfl, (rfl : _ = Value.int _ _)⟩, ⟨rfl, (rfl : _ = Value.int _ _)⟩, trivial⟩ ?_))))))))))))
    exact ⟨by simp [canP, retV, hee, g3], g5.tail⟩
   exfalso
   try simp only [zS] at g3
   first | exact hee g3 | exact g3 hee
  replace g5 := (show St _ _ (M ++ (_ :: _ :: F)) from g5)
  have hk : MK w0 ((mb, blk 146 [.slice p.ar m.rooms.length p.cr, .slice p.az m.shops.length p.cs, .slice p.at_ m.trains.length p.ct, .map (some mm)]) :: (b3, blk 26 (m.cells p)) :: F) m p mb mm := ⟨hm.cons.cons, zBm (i := 0) (vs := [_,_,_,_]) rfl rfl, check_ok (zC1 (someE_enter hee))⟩
  have hlr := hk.ok.lr
  have hls := hk.ok.ls
  have hlt := hk.ok.lt
  have hbx : Ats w0 ((b3, blk 26 (m.cells p)) :: F) b3 0 (m.cells p) := zBm (i := 0) rfl rfl
  refine w_p (zA6 rfl rfl) rfl (w_p (zBy rfl rfl rfl) rfl (w_p (zAq rfl rfl rfl) rfl (w_p (zAq rfl rfl rfl) rfl (w_p (zBu rfl rfl) rfl (zBg rfl rfl (zBg rfl rfl (zAe (zAb (ga _ _ (zAf (fun gx ge => (zAw ?_))))))))))))
  refine zAf (fun gy gf => (zAa (zA2 rfl rfl (w_p (zCj rfl rfl rfl rfl) rfl (w_p (zAl rfl rfl) rfl (zAe (zAb (gf _ _ (zBj rfl rfl ?_)))))))))
  refine zAf (fun gz gg => (zAa (w_p (zBi rfl rfl) rfl (w_p (zBi rfl rfl) rfl (zCi zAc call49 rfl rfl rfl rfl (c49 m p mb mm hk.app _ g5) (fun gA gh => ?_))))))
  refine zA2 rfl rfl (zA4 zAc call69 rfl rfl rfl rfl (c69 (X := []) m p mb mm hk _ (zDz hk.ok _) _ hM gh) ?_)
  rintro _ gB ⟨rfl, M30, gi, g7⟩
  replace g7 := (show St _ _ (M30 ++ (_ :: _ :: F)) from g7)
  refine w_p (zAl rfl rfl) rfl (zAe (zAb (gg _ _ (zAv rfl rfl (fun g4 => ?_) (fun g4 => ?_)))))
  ·
   try simp only [zS] at g4
   refine zAf (fun gC gj => (zAa (zA9 rfl rfl (zA9 rfl rfl (zAe (zAb (gj _ _ (zA0 (zAz (zAh (zA1 (l := [.tmp 4, .tmp 5]) (vs := [_,_]) rfl ⟨⟨rfl, (rfl : _ = Value.int _ _)⟩, ⟨rfl, (rfl : _ = Value.int _ _)⟩, trivial⟩ ?_)))))))))))
   exact ⟨by simp [canP, retV, hee, g4], g7.drop.tail.tail⟩
  try simp only [zS] at g4
  refine zAf (fun gD gk => (zAa (w_p (zBi rfl rfl) rfl (w_p (zBi rfl rfl) rfl (zCi zAc call49 rfl rfl rfl rfl (c49 m p mb mm hk.app _ g7) (fun gE gm => ?_))))))
  refine zA2 rfl rfl (zA4 zAc call69 rfl rfl rfl rfl (c69 (X := []) m p mb mm hk _ (zDz hk.ok _) _ gi gm) ?_)
  rintro _ gF ⟨rfl, M43, gG, g8⟩
  replace g8 := (show St _ _ (M43 ++ (_ :: _ :: F)) from g8)
  refine w_p (zAl rfl rfl) rfl (zAe (zAb (gk _ _ (zAv rfl rfl (fun g6 => ?_) (fun g6 => ?_)))))
  ·
   try simp only [zS] at g6
   refine zAf (fun gH gn => (zAa (zA9 rfl rfl (zA9 rfl rfl (zAe (zAb (gn _ _ (zA0 (zAz (zAh (zA1 (l := [.tmp 4, .tmp 5]) (vs := [_,_]) rfl ⟨⟨rfl, (rfl : _ = Value.int _ _)⟩, ⟨rfl, (rfl : _ = Value.int _ _)⟩, trivial⟩ ?_)))))))))))
   exact ⟨by simp [canP, retV, hee, g4, g6], g8.drop.tail.tail⟩
  try simp only [zS] at g6
  refine zAr (zAk (zAb (ge _ _ (zAf (fun gI gq => (zAa (zA9 rfl rfl (zA9 rfl rfl (zAe (zAb (gq _ _ (zA0 (zA1 (l := [.tmp 4, .tmp 5]) (vs := [_,_]) rfl ⟨⟨rfl, (rfl : _ = Value.int _ _)⟩, ⟨rfl, (rfl : _ = Value.int _ _)⟩, trivial⟩ ?_)))))))))))))
  exact ⟨by simp [canP, retV, hee, g4, g6], g8.drop.tail.tail⟩

theorem c36 {w0 w : World} {F : List (Nat × Obj)} (m : Market) (p : At3) (hm : MIn w0 F m p) (al : Option Addr) (cl : Nat) (l : List Int) (hll : l.length ≤ 9223372036854775807) (hl : Sl w0 F al 1 (l.map fun x => [Value.int .i64 x]))  (hs : St w0 w F) :
  Con Tryz.prog 36 [.agg (m.cells p).toArray, .slice al l.length cl] w fun v w' => ∃ B a c, v = .tuple #[.slice a (proofP m l).1.length c, .int .i64 (proofP m l).2.1, .int .i64 (proofP m l).2.2] ∧ Sl w0 B a 1 ((proofP m l).1.map fun x => [Value.int .i64 x]) ∧ St w0 w' (B ++ F) := by
  refine zAo (n := 31) func36 rfl rfl (zNl rfl) ?_
  refine zAf (fun K2 g9 => (zAa (zCd (v := .agg #[.slice _ _ _, .slice _ _ _, .slice _ _ _]) (cs := [_,_,_]) zAc rfl rfl rfl hs (fun b3 w4 g7 => ?_))))
  refine zA9 rfl rfl (zA9 rfl rfl (zA9 rfl rfl (zAe (zAb (g9 _ _ (zAf (fun K7 g8 => (zAa (w_p (zAs (vs := [_,_,_]) isAgg26 sizeOf26 g7 rfl rfl (aow 0 [_,_,_])) rfl ?_)))))))))
  refine w_p (zAx rfl rfl) rfl (zA4 zAc call68 rfl rfl rfl rfl (c68 m p hm.cons _ _ l hll hl.cons g7) ?_)
  rintro _ w9 (⟨hee, rfl, g4⟩ | ⟨hee, mb, mm, M, rfl, hM, g4⟩)
  ·
   refine w_p (zA6 rfl rfl) rfl (w_p (zBy rfl rfl rfl) rfl (w_p (zAq rfl rfl rfl) rfl (w_p (zAq rfl rfl rfl) rfl (w_p (zBu rfl rfl) rfl (zBg rfl rfl (zBg rfl rfl (zAe (zAb (g8 _ _ (zAf (fun gm gn => (zAf (fun gq ga => (zAa (zA2 rfl rfl ?_)))))))))))))))
   refine w_p (zCj rfl rfl rfl rfl) rfl (zAe (zAb (ga _ _ (zAv rfl rfl (fun g5 => ?_) (fun g5 => ?_)))))
   ·
    try simp only [zS] at g5
    refine zAf (fun gr gb => (zAa (zA2 rfl rfl (zA9 rfl rfl (zA9 rfl rfl (zBg rfl rfl (zAe (zAb (gb _ _ (zA0 (zAh (zA1 (l := [.tmp 4, .tmp 5, .tmp 6]) (vs := [_,_,_]) rfl ⟨⟨rfl, show _ = (.slice _ _ _ : Value) from rfl⟩, ⟨rfl, (rfl : _ = Value.int _ _)⟩, ⟨rfl, (rfl : _ = Value.int _ _)⟩, trivial⟩ ?_))))))))))))
    exact ⟨[], none, 0, by unfold proofP; rw [if_pos hee]; rfl, by unfold proofP; rw [if_pos hee]; exact Sl.nil _ _, g4.tail⟩
   exfalso
   try simp only [zS] at g5
   first | exact hee g5 | exact g5 hee
  replace g4 := (show St _ _ (M ++ (_ :: _ :: F)) from g4)
  have hk : MK w0 ((mb, blk 146 [.slice p.ar m.rooms.length p.cr, .slice p.az m.shops.length p.cs, .slice p.at_ m.trains.length p.ct, .map (some mm)]) :: (b3, blk 26 (m.cells p)) :: F) m p mb mm := ⟨hm.cons.cons, zBm (i := 0) (vs := [_,_,_,_]) rfl rfl, check_ok (zC1 (someE_enter hee))⟩
  have hlr := hk.ok.lr
  have hls := hk.ok.ls
  have hlt := hk.ok.lt
  have hbx : Ats w0 ((b3, blk 26 (m.cells p)) :: F) b3 0 (m.cells p) := zBm (i := 0) rfl rfl
  refine w_p (zA6 rfl rfl) rfl (w_p (zBy rfl rfl rfl) rfl (w_p (zAq rfl rfl rfl) rfl (w_p (zAq rfl rfl rfl) rfl (w_p (zBu rfl rfl) rfl (zBg rfl rfl (zBg rfl rfl (zAe (zAb (g8 _ _ (zAf (fun gt gc => (zAf (fun gu gd => (zAa (zA2 rfl rfl ?_)))))))))))))))
  refine w_p (zCj rfl rfl rfl rfl) rfl (zAe (zAb (gd _ _ (zBj rfl rfl ?_))))
  refine zAr (zAb (gc _ _ (zAf (fun gw ge => (zAf (fun gx gf => (zAa (w_p (zBi rfl rfl) rfl (w_p (zBi rfl rfl) rfl (zCi zAc call49 rfl rfl rfl rfl (c49 m p mb mm hk.app _ g4) (fun gy gg => ?_)))))))))))
  refine zA2 rfl rfl (zA4 zAc call70 rfl rfl rfl rfl (c70 (X := []) m p mb mm hk _ (zDz hk.ok _) _ hM gg) ?_)
  rintro _ gz ⟨gh, al_B33, cl_B33, M32, rfl, hsl_B33, gA, g3⟩
  replace g3 := (show St _ _ (gh ++ (M32 ++ (_ :: _ :: F))) from g3)
  refine w_p (zA6 rfl rfl) rfl (w_p (zCm rfl rfl rfl) rfl (w_p (zAq rfl rfl rfl) rfl (w_p (zBh rfl rfl) rfl (zBg rfl rfl (zAe (zAb (gf _ _ (zAf (fun gB gi => (zAa (zA2 rfl rfl ?_)))))))))))
  refine w_p (zCk rfl rfl rfl rfl) rfl (zAe (zAb (gi _ _ (zAv rfl rfl (fun g6 => ?_) (fun g6 => ?_)))))
  ·
   try simp only [zS] at g6
   refine zAf (fun gC gj => (zAa (zA9 rfl rfl (zA9 rfl rfl (zA9 rfl rfl (zAe (zAb (gj _ _ (zA0 (zAh (zA1 (l := [.tmp 4, .tmp 5, .tmp 6]) (vs := [_,_,_]) rfl ⟨⟨rfl, show _ = (.slice _ _ _ : Value) from rfl⟩, ⟨rfl, (rfl : _ = Value.int _ _)⟩, ⟨rfl, (rfl : _ = Value.int _ _)⟩, trivial⟩ ?_)))))))))))
   first
     | (have hq : proofP m l = ([], 0,9) := by unfold proofP; rw [if_neg (by simp [hee]), if_pos (by assumption)]
        exact ⟨[], none, 0, by rw [hq]; rfl, by rw [hq]; exact Sl.nil _ _, g3.drop.drop.tail.tail⟩)
     | (have hq : proofP m l = ((worst m (allX m false) (someS l)).1, (worst m (allX m false) (someS l)).2,0) := by unfold proofP; rw [if_neg (by simp [hee]), if_neg (by assumption)]
        exact ⟨_, al_B33, cl_B33, by rw [hq]; rfl, by rw [hq]; exact hsl_B33.top, eq2 g3⟩)
  try simp only [zS] at g6
  refine zAr (zAb (ge _ _ (zAf (fun gD gk => (zAa (w_p (zAx rfl rfl) rfl (zA2 rfl rfl (w_p (zBh rfl rfl) rfl (zBg rfl rfl (zA9 rfl rfl (zAe (zAb (gk _ _ (zA0 (zA1 (l := [.tmp 4, .tmp 5, .tmp 6]) (vs := [_,_,_]) rfl ⟨⟨rfl, show _ = (.slice _ _ _ : Value) from rfl⟩, ⟨rfl, (rfl : _ = Value.int _ _)⟩, ⟨rfl, (rfl : _ = Value.int _ _)⟩, trivial⟩ ?_)))))))))))))))
  first
    | (have hq : proofP m l = ([], 0,9) := by unfold proofP; rw [if_neg (by simp [hee]), if_pos (by assumption)]
       exact ⟨[], none, 0, by rw [hq]; rfl, by rw [hq]; exact Sl.nil _ _, g3.drop.drop.tail.tail⟩)
    | (have hq : proofP m l = ((worst m (allX m false) (someS l)).1, (worst m (allX m false) (someS l)).2,0) := by unfold proofP; rw [if_neg (by simp [hee]), if_neg (by assumption)]
       exact ⟨_, al_B33, cl_B33, by rw [hq]; rfl, by rw [hq]; exact hsl_B33.top, eq2 g3⟩)

theorem c47 {w0 w : World} {X M F : List (Nat × Obj)} (m : Market) (p : At3) (mb mm : Nat) (hk : MK w0 F m p mb mm)  (hM : Memo m mm M) (hs : St w0 w (X ++ (M ++ F))) :
  Con Tryz.prog 47 [.pointer (some ⟨mb, 0, none⟩)] w fun v w' => ∃ B a c M', v = .slice a (withoutL m).length c ∧ Sl w0 B a 1 ((withoutL m).map fun x => [Value.int .i64 x]) ∧ Memo m mm M' ∧ St w0 w' (B ++ (X ++ (M' ++ F))) := by
  refine zAo (n := 50) func47 rfl rfl (zNl rfl) ?_
  have hb := hk.b
  have hlr := hk.ok.lr
  have hls := hk.ok.ls
  have hlt := hk.ok.lt
  have hsa := shl_all hls
  refine zAf (fun K2 ge => (zAa (zA9 rfl rfl (zAe (zAb (ge _ _ (zAf (fun K4 gf => (zAa (w_p (zBi rfl rfl) rfl (w_p (zBl rfl rfl) rfl ?_)))))))))))
  refine w_p (zAd (o := 0) (i := 0) underlying146 rfl sizeOf26 rfl rfl rfl) rfl (w_p (zAd (o := 1) (i := 1) underlying26 rfl sizeOf23 rfl rfl rfl) rfl (w_p (zAi isAgg23 hs.drop.drop rfl rfl (show Ats _ _ _ _ [_] from Ats.part hb 1 1)) rfl (w_p (zBd underlying23 rfl rfl) rfl ?_)))
  refine w_p (y_shl (x := 1) (y := _) rfl rfl rfl rfl rfl rfl (by first | omega | exact zCs (by omega)) (by first | omega | exact zCs (by omega))) rfl ?_
  refine w_p (zCt (z' := ((1 <<< m.shops.length - 1 : Nat) : Int)) (by omega) (zDk rfl rfl rfl rfl (by omega) (by omega))) rfl (zBg rfl rfl (zAe (zAb (gf _ _ (zAf (fun K6 gg => (zAa (zA2 rfl rfl ?_))))))))
  refine w_p (zBi rfl rfl) rfl (w_p (zBl rfl rfl) rfl (w_p (zAd (o := 0) (i := 0) underlying146 rfl sizeOf26 rfl rfl rfl) rfl (w_p (zAd (o := 1) (i := 1) underlying26 rfl sizeOf23 rfl rfl rfl) rfl (w_p (zAi isAgg23 hs.drop.drop rfl rfl (show Ats _ _ _ _ [_] from Ats.part hb 1 1)) rfl ?_))))
  refine w_p (zBd underlying23 rfl rfl) rfl (zA4 zAc call79 rfl rfl rfl rfl (c79 _ _ (by omega) (by omega) hs) ?_)
  rintro _ w8 ⟨B, al, cl, rfl, hsl, g6⟩
  replace g6 := (show St _ _ (B ++ (X ++ (M ++ (F)))) from g6)
  refine w_p (zBh rfl rfl) rfl (zAe (zAb (gg _ _ (zAf (fun gt gh => (zAf (fun gu gi => (zAa (zA2 rfl rfl (w_p (zBo (v := _) rfl rfl) rfl ?_))))))))))
  refine zAe (zAb (gi _ _ (zAw ?_)))
  refine zB2 [4,5,6,24,25,26,27,28,29,30,31,32,33,34,35,36,37,38,39,40,41,42,43,44,45,46,47,48] [4,24] (fun k vs w => ∃ (b : Nat) (av : Option Addr) (cv : Nat) (B Mq : List (Nat × Obj)), vs = [.slice av (withoutTo m b).length cv, .int .i64 b] ∧ b ≤ 1 <<< m.shops.length - 1 ∧ k = (1 <<< m.shops.length - 1) - b ∧ Sl w0 B av 1 ((withoutTo m b).map fun x => [Value.int .i64 x]) ∧ Memo m mm Mq ∧ St w0 w (B ++ (X ++ (Mq ++ F)))) (1 <<< m.shops.length - 1) ?_ ?_
  ·
   exact ⟨0, _,_, B, M, rfl, by omega, by omega, hsl, hM, g6⟩
  intro k vs μ gw hI gx g7
  obtain ⟨b, av, cv, B, Mq, rfl, hba, rfl, hsl, hMq, hs⟩ := hI
  refine zAf (fun gy gj => (zAa (w_p (zCb rfl rfl rfl rfl) rfl (zAe (zAb (gj _ _ (zAf (fun gz gk => (zAv rfl rfl (fun g8 => ?_) (fun g8 => ?_))))))))))
  ·
   try simp only [zS] at g8
   refine zAr (zAb (gk _ _ (zAf (fun gA g9 => (zAw ?_)))))
   refine zAf (fun gB gm => (zAa (zA2 rfl rfl (zBg rfl rfl (zAe (zAb (gm _ _ (zAf (fun gC gn => (zAa (zA2 rfl rfl (w_p (zBi rfl rfl) rfl ?_))))))))))))
   refine w_p (zBl rfl rfl) rfl (w_p (zAd (o := 0) (i := 0) underlying146 rfl sizeOf26 rfl rfl rfl) rfl (w_p (zAd (o := 1) (i := 1) underlying26 rfl sizeOf23 rfl rfl rfl) rfl (w_p (zAi isAgg23 hs.drop.drop.drop rfl rfl (show Ats _ _ _ _ [_] from Ats.part hb 1 1)) rfl ?_)))
   refine w_p (zBd underlying23 rfl rfl) rfl (zA4 zAc call79 rfl rfl rfl rfl (c79 _ _ (by omega) (by omega) hs) ?_)
   rintro _ gD ⟨B1, al1, cl1, rfl, hsl1, ga⟩
   replace ga := (show St _ _ (B1 ++ (B ++ (X ++ (Mq ++ (F))))) from ga)
   refine w_p (zBh rfl rfl) rfl (zAe (zAb (gn _ _ (zAf (fun gE gd => ?_)))))
   have hle1 := zDm b m.shops.length
   have hle2 := zE7 m b
   refine zAa (w_p (zAx rfl rfl) rfl (w_p (zAx rfl rfl) rfl (zCi zAc call80 rfl rfl rfl rfl (c80 _ _ _ _ _ _ (by omega) (by omega) hsl1.top hsl.top.app ga) (fun gF g5 => ?_))))
   refine w_p (zAn rfl rfl) rfl (zBk (fun gb => ?_) (fun gb => ?_))
   ·
    try simp only [zS] at gb
    refine w_y rfl rfl rfl (zBi rfl rfl) rfl ?_
    refine w_y rfl rfl rfl (zBi rfl rfl) rfl ?_
    refine zA4 (zAm rfl rfl rfl) call49 rfl rfl rfl rfl (c49 m p mb mm hk.app.app.app.app _ g5) ?_
    rintro _ gG ⟨rfl, gq⟩
    refine w_y rfl rfl rfl (zAu rfl rfl) rfl ?_
    refine w_y rfl rfl rfl (zAu rfl rfl) rfl ?_
    refine w_y rfl rfl rfl (y_andNot (x := 1 <<< m.shops.length - 1) (y := b) rfl rfl rfl rfl (by first | rfl | omega) (by first | rfl | omega) (by first | omega | exact zCs (by omega))) rfl ?_
    refine zA4 (zAm rfl rfl rfl) call69 rfl rfl rfl rfl (c69 (X := (B1 ++ (B ++ (X)))) m p mb mm hk _ (zDz hk.ok _) _ hMq (St.cast (by simp only [List.append_assoc, List.cons_append]) gq)) ?_
    rintro _ gH ⟨rfl, M43, g4, g3⟩
    replace g3 : St _ _ (B1 ++ (B ++ (X ++ (M43 ++ (F))))) := St.cast (by simp only [List.append_assoc, List.cons_append]) g3
    refine w_p (zAt (v := .bool _) rfl rfl rfl rfl) rfl (zAe (zAb (gd _ _ (zAv rfl rfl (fun gc => ?_) (fun gc => ?_)))))
    ·
     try simp only [zS] at gc
     refine zAa (w_p (zAx rfl rfl) rfl (w_p (zBh rfl rfl) rfl (zAe (zAk (zAb (g9 _ _ (zAa (w_p (zBe rfl rfl rfl rfl (by omega) (by omega)) rfl ?_))))))))
     refine zA2 rfl rfl (zAe (zAb (g7 _ _ (nxI ((1 <<< m.shops.length - 1) - (b + 1)) (by omega) ?_))))
     first
       | exact ⟨b + 1, al1, cl1, B1 ++ B, M43, by rw [← zDl (by assumption) (by assumption)]; rfl, by omega, rfl, by rw [← zDl (by assumption) (by assumption)]; exact hsl1.top, g4, by rw [List.append_assoc]; exact g3⟩
       | exact ⟨b + 1, av, cv, B1 ++ B, M43, by rw [← zD7 (by assumption)]; rfl, by omega, rfl, by rw [← zD7 (by assumption)]; exact hsl.app, g4, by rw [List.append_assoc]; exact g3⟩
       | exact ⟨b + 1, av, cv, B1 ++ B, M43, by rw [← zD6 (by assumption)]; rfl, by omega, rfl, by rw [← zD6 (by assumption)]; exact hsl.app, g4, by rw [List.append_assoc]; exact g3⟩
    try simp only [zS] at gc
    refine zAr (zAk (zAb (g9 _ _ (zAa (w_p (zBe rfl rfl rfl rfl (by omega) (by omega)) rfl (zA2 rfl rfl (zAe (zAb (g7 _ _ (nxI ((1 <<< m.shops.length - 1) - (b + 1)) (by omega) ?_))))))))))
    first
      | exact ⟨b + 1, al1, cl1, B1 ++ B, M43, by rw [← zDl (by assumption) (by assumption)]; rfl, by omega, rfl, by rw [← zDl (by assumption) (by assumption)]; exact hsl1.top, g4, by rw [List.append_assoc]; exact g3⟩
      | exact ⟨b + 1, av, cv, B1 ++ B, M43, by rw [← zD7 (by assumption)]; rfl, by omega, rfl, by rw [← zD7 (by assumption)]; exact hsl.app, g4, by rw [List.append_assoc]; exact g3⟩
      | exact ⟨b + 1, av, cv, B1 ++ B, M43, by rw [← zD6 (by assumption)]; rfl, by omega, rfl, by rw [← zD6 (by assumption)]; exact hsl.app, g4, by rw [List.append_assoc]; exact g3⟩
   try simp only [zS] at gb
   refine zAg rfl rfl rfl ?_
   refine zAg rfl rfl rfl ?_
   refine zAg rfl rfl rfl ?_
   refine zAg rfl rfl rfl ?_
   refine zAg rfl rfl rfl ?_
   refine zAg rfl rfl rfl ?_
   refine zAg rfl rfl rfl ?_
   refine w_p (zBb (v := _) rfl rfl rfl rfl) rfl (zAe (zAb (gd _ _ (zBj rfl rfl ?_))))
   refine zAr (zAk (zAb (g9 _ _ (zAa (w_p (zBe rfl rfl rfl rfl (by omega) (by omega)) rfl (zA2 rfl rfl (zAe (zAb (g7 _ _ (nxI ((1 <<< m.shops.length - 1) - (b + 1)) (by omega) ?_))))))))))
   first
     | exact ⟨b + 1, al1, cl1, B1 ++ B, Mq, by rw [← zDl (by assumption) (by assumption)]; rfl, by omega, rfl, by rw [← zDl (by assumption) (by assumption)]; exact hsl1.top, hMq, by rw [List.append_assoc]; exact g5⟩
     | exact ⟨b + 1, av, cv, B1 ++ B, Mq, by rw [← zD7 (by assumption)]; rfl, by omega, rfl, by rw [← zD7 (by assumption)]; exact hsl.app, hMq, by rw [List.append_assoc]; exact g5⟩
     | exact ⟨b + 1, av, cv, B1 ++ B, Mq, by rw [← zD6 (by assumption)]; rfl, by omega, rfl, by rw [← zD6 (by assumption)]; exact hsl.app, hMq, by rw [List.append_assoc]; exact g5⟩
  try simp only [zS] at g8
  refine zBr (zAj (zAj (zAy (zAb (gh _ _ (zAf (fun gI gr => (zAa (w_p (zAx rfl rfl) rfl (w_p (zBh rfl rfl) rfl ?_))))))))))
  refine zAe (zAb (gr _ _ (zA0 (zA1 (l := [.tmp 2]) (vs := [_]) rfl ⟨⟨rfl, show _ = (.slice _ _ _ : Value) from rfl⟩, trivial⟩ ?_))))
  have hbw : b = 1 <<< m.shops.length - 1 := by omega
  subst hbw
  exact ⟨B, av, cv, Mq, rfl, hsl, hMq, hs⟩

theorem c37 {w0 w : World} {F : List (Nat × Obj)} (m : Market) (p : At3) (hm : MIn w0 F m p)  (hs : St w0 w F) :
  Con Tryz.prog 37 [.agg (m.cells p).toArray] w fun v w' => ∃ B a c, v = .tuple #[.slice a (withoutP m).1.length c, .int .i64 (withoutP m).2] ∧ Sl w0 B a 1 ((withoutP m).1.map fun x => [Value.int .i64 x]) ∧ St w0 w' (B ++ F) := by
  refine zAo (n := 16) func37 rfl rfl (zNl rfl) ?_
  refine zAf (fun K2 g8 => (zAa (zCd (v := .agg #[.slice _ _ _, .slice _ _ _, .slice _ _ _]) (cs := [_,_,_]) zAc rfl rfl rfl hs (fun b3 w4 g6 => ?_))))
  refine zA9 rfl rfl (zA9 rfl rfl (zAe (zAb (g8 _ _ (zAf (fun K7 g7 => (zAa (w_p (zAs (vs := [_,_,_]) isAgg26 sizeOf26 g6 rfl rfl (aow 0 [_,_,_])) rfl ?_))))))))
  refine zA4 zAc call45 rfl rfl rfl rfl (c45 m p hm.cons 0 (by omega) (by omega) none 0 [] (by simp) (Sl.nil _ _) g6) ?_
  rintro _ w9 (⟨hee, rfl, g3⟩ | ⟨hee, mb, mm, M, rfl, hM, g3⟩)
  ·
   refine w_p (zA6 rfl rfl) rfl (w_p (zBy rfl rfl rfl) rfl (w_p (zAq rfl rfl rfl) rfl (w_p (zBu rfl rfl) rfl (zBg rfl rfl (zAe (zAb (g7 _ _ (zAf (fun gf gg => (zAf (fun gh g9 => (zAa (zA2 rfl rfl ?_)))))))))))))
   refine w_p (zCj rfl rfl rfl rfl) rfl (zAe (zAb (g9 _ _ (zAv rfl rfl (fun g4 => ?_) (fun g4 => ?_)))))
   ·
    try simp only [zS] at g4
    refine zAf (fun gi ga => (zAa (zA2 rfl rfl (zA9 rfl rfl (zBg rfl rfl (zAe (zAb (ga _ _ (zA0 (zAh (zA1 (l := [.tmp 2, .tmp 3]) (vs := [_,_]) rfl ⟨⟨rfl, show _ = (.slice _ _ _ : Value) from rfl⟩, ⟨rfl, (rfl : _ = Value.int _ _)⟩, trivial⟩ ?_)))))))))))
    have hq : withoutP m = ([], (check m).2.2) := by unfold withoutP; rw [if_pos (by rw [← zEg (n := 0)]; exact hee)]
    exact ⟨[], none, 0, by rw [hq, ← zEg (n := 0)]; rfl, by rw [hq]; exact Sl.nil _ _, g3.tail⟩
   exfalso
   try simp only [zS] at g4
   first | exact hee g4 | exact g4 hee
  replace g3 := (show St _ _ (M ++ (_ :: _ :: F)) from g3)
  have hk : MK w0 ((mb, blk 146 [.slice p.ar m.rooms.length p.cr, .slice p.az m.shops.length p.cs, .slice p.at_ m.trains.length p.ct, .map (some mm)]) :: (b3, blk 26 (m.cells p)) :: F) m p mb mm := ⟨hm.cons.cons, zBm (i := 0) (vs := [_,_,_,_]) rfl rfl, check_ok (zC1 hee)⟩
  have hlr := hk.ok.lr
  have hls := hk.ok.ls
  have hlt := hk.ok.lt
  have hbx : Ats w0 ((b3, blk 26 (m.cells p)) :: F) b3 0 (m.cells p) := zBm (i := 0) rfl rfl
  refine w_p (zA6 rfl rfl) rfl (w_p (zBy rfl rfl rfl) rfl (w_p (zAq rfl rfl rfl) rfl (w_p (zBu rfl rfl) rfl (zBg rfl rfl (zAe (zAb (g7 _ _ (zAf (fun gj gb => (zAf (fun gk gc => (zAa (zA2 rfl rfl ?_)))))))))))))
  refine w_p (zCj rfl rfl rfl rfl) rfl (zAe (zAb (gc _ _ (zBj rfl rfl ?_))))
  refine zAr (zAb (gb _ _ (zAf (fun gm gd => (zAa (w_p (zBi rfl rfl) rfl (zA4 zAc call47 rfl rfl rfl rfl (c47 (X := []) m p mb mm hk  hM g3) ?_)))))))
  rintro _ gn ⟨ge, al_B28, cl_B28, M27, rfl, hsl_B28, gq, g5⟩
  replace g5 := (show St _ _ (ge ++ (M27 ++ (_ :: _ :: F))) from g5)
  refine w_p (zBh rfl rfl) rfl (zA9 rfl rfl (zAe (zAb (gd _ _ (zA0 (zA1 (l := [.tmp 2, .tmp 3]) (vs := [_,_]) rfl ⟨⟨rfl, show _ = (.slice _ _ _ : Value) from rfl⟩, ⟨rfl, (rfl : _ = Value.int _ _)⟩, trivial⟩ ?_))))))
  have hq : withoutP m = (withoutL m, 0) := by unfold withoutP; rw [if_neg (by rw [zC1 hee]; simp)]
  exact ⟨_, al_B28, cl_B28, by rw [hq]; rfl, by rw [hq]; exact hsl_B28.top, eq2 g5⟩

theorem c10 {w0 w : World} {F : List (Nat × Obj)} (m : Market) (p : At3) (hm : MIn w0 F m p)  (hs : St w0 w F) :
  Con Tryz.prog 10 [.agg (m.cells p).toArray] w fun v w' => ∃ B a c, v = .tuple #[.slice a (goesP m).1.length c, .int .i64 (goesP m).2] ∧ Sl w0 B a 1 ((goesP m).1.map fun x => [Value.int .i64 x]) ∧ St w0 w' (B ++ F) := by
  refine zAo (n := 29) func10 rfl rfl (zNl rfl) ?_
  refine zAf (fun K2 gd => (zAa (zCd (v := .agg #[.slice _ _ _, .slice _ _ _, .slice _ _ _]) (cs := [_,_,_]) zAc rfl rfl rfl hs (fun b3 w4 g8 => ?_))))
  refine zA9 rfl rfl (zA9 rfl rfl (zAe (zAb (gd _ _ (zAf (fun K7 g9 => (zAa (w_p (zAs (vs := [_,_,_]) isAgg26 sizeOf26 g8 rfl rfl (aow 0 [_,_,_])) rfl ?_))))))))
  refine zA4 zAc call45 rfl rfl rfl rfl (c45 m p hm.cons 0 (by omega) (by omega) none 0 [] (by simp) (Sl.nil _ _) g8) ?_
  rintro _ w9 (⟨hee, rfl, g3⟩ | ⟨hee, mb, mm, M, rfl, hM, g3⟩)
  ·
   refine w_p (zA6 rfl rfl) rfl (w_p (zBy rfl rfl rfl) rfl (w_p (zAq rfl rfl rfl) rfl (w_p (zBu rfl rfl) rfl (zBg rfl rfl (zAe (zAb (g9 _ _ (zAf (fun gy gz => (zAf (fun gA ge => (zAa (zA2 rfl rfl ?_)))))))))))))
   refine w_p (zCj rfl rfl rfl rfl) rfl (zAe (zAb (ge _ _ (zAv rfl rfl (fun g4 => ?_) (fun g4 => ?_)))))
   ·
    try simp only [zS] at g4
    refine zAf (fun gB gf => (zAa (zA2 rfl rfl (zA9 rfl rfl (zBg rfl rfl (zAe (zAb (gf _ _ (zA0 (zAh (zA1 (l := [.tmp 2, .tmp 3]) (vs := [_,_]) rfl ⟨⟨rfl, show _ = (.slice _ _ _ : Value) from rfl⟩, ⟨rfl, (rfl : _ = Value.int _ _)⟩, trivial⟩ ?_)))))))))))
    have hq : goesP m = ([], (check m).2.2) := by unfold goesP; rw [if_pos (by rw [← zEg (n := 0)]; exact hee)]
    exact ⟨[], none, 0, by rw [hq, ← zEg (n := 0)]; rfl, by rw [hq]; exact Sl.nil _ _, g3.tail⟩
   exfalso
   try simp only [zS] at g4
   first | exact hee g4 | exact g4 hee
  replace g3 := (show St _ _ (M ++ (_ :: _ :: F)) from g3)
  have hk : MK w0 ((mb, blk 146 [.slice p.ar m.rooms.length p.cr, .slice p.az m.shops.length p.cs, .slice p.at_ m.trains.length p.ct, .map (some mm)]) :: (b3, blk 26 (m.cells p)) :: F) m p mb mm := ⟨hm.cons.cons, zBm (i := 0) (vs := [_,_,_,_]) rfl rfl, check_ok (zC1 hee)⟩
  have hlr := hk.ok.lr
  have hls := hk.ok.ls
  have hlt := hk.ok.lt
  have hbx : Ats w0 ((b3, blk 26 (m.cells p)) :: F) b3 0 (m.cells p) := zBm (i := 0) rfl rfl
  refine w_p (zA6 rfl rfl) rfl (w_p (zBy rfl rfl rfl) rfl (w_p (zAq rfl rfl rfl) rfl (w_p (zBu rfl rfl) rfl (zBg rfl rfl (zAe (zAb (g9 _ _ (zAf (fun gC gg => (zAf (fun gD gh => (zAa (zA2 rfl rfl ?_)))))))))))))
  refine w_p (zCj rfl rfl rfl rfl) rfl (zAe (zAb (gh _ _ (zBj rfl rfl ?_))))
  refine zAr (zAb (gg _ _ (zAf (fun gE gi => (zAf (fun gF gj => (zAa (w_p (zAd (o := 2) (i := 2) underlying26 rfl sizeOf24 rfl rfl rfl) rfl (w_p (zAi isAgg24 g3.drop.tail rfl rfl (show Ats _ _ _ _ [_] from Ats.part hbx 2 1)) rfl ?_)))))))))
  refine w_p (zBd underlying24 rfl rfl) rfl (w_p (zBo (v := _) rfl rfl) rfl (zAe (zAb (gj _ _ (zAw ?_)))))
  refine zB2 [2,5,17,18,19,20,21,22,23,24,25,26,27] [2,17] (fun k vs w => ∃ (i : Nat) (v : Value) (B : List (Nat × Obj)), vs = [v, .int .i64 i] ∧ i ≤ m.trains.length ∧ k = m.trains.length - i ∧ Rt.Own v 3 1 (goesTo m i).length (iv (goesTo m i)) B ∧ St w0 w (B ++ (M ++ ((mb, blk 146 [.slice p.ar m.rooms.length p.cr, .slice p.az m.shops.length p.cs, .slice p.at_ m.trains.length p.ct, .map (some mm)]) :: (b3, blk 26 (m.cells p)) :: F)))) (m.trains.length) ?_ ?_
  ·
   exact ⟨0, _, [], rfl, by omega, by omega, zEv 3 1, g3⟩
  intro k vs μ gG hI gH ga
  obtain ⟨i, v, B, rfl, hia, rfl, hown, hs⟩ := hI
  refine zAf (fun gI gk => (zAa (w_p (zCb rfl rfl rfl rfl) rfl (zAe (zAb (gk _ _ (zAf (fun gJ gm => (zAv rfl rfl (fun g5 => ?_) (fun g5 => ?_))))))))))
  ·
   try simp only [zS] at g5
   refine zAr (zAb (gm _ _ (zAf (fun gK gb => (zAw ?_)))))
   refine zAf (fun gL gn => ?_)
   have hi2 : i < m.trains.length := by omega
   have hgl := goesTo_len m i
   refine zAa (zA2 rfl rfl (zBg rfl rfl (zAe (zAb (gn _ _ (zAf (fun gM gq => (zAa (w_p (zBi rfl rfl) rfl (zA2 rfl rfl (zCi zAc call46 rfl rfl rfl rfl (c46 m p mb mm hk.app.app i hi2 hs) (fun gN gc => ?_))))))))))))
   refine zAe (zAb (gq _ _ (zAv rfl rfl (fun g6 => ?_) (fun g6 => ?_))))
   ·
    try simp only [zS] at g6
    refine zAa (w_p (zBo (v := v) rfl rfl) rfl (zA2 rfl rfl (zBc (ps := [(0, _)]) (pv := [(0, .int _ _)]) (cs := [_]) zAc rfl rfl (fun w => Try_SH_fb2 _ w) gc (fun gO gP gr => ?_))))
    refine zDd (X := (_ :: [])) (B := B) (rows := [[_]]) (sz := 1) (bytes := 8) zAc underlying30 zDf rfl rfl rfl rfl rfl rfl rfl rfl rfl gr hown (zBx (i := 0) rfl (by simp) rfl) rfl (by simp) (by simp [Value.oneCell']) (by simp only [maxLen]; omega) (by omega) (fun gt gQ gu gw g7 => ?_)
    replace g7 := (show St _ _ (_ :: gu ++ (M ++ (_ :: _ :: F))) from g7)
    refine w_p (zB9 (v := gt) rfl rfl) rfl (zAe (zAk (zAb (gb _ _ (zAa (w_p (zBe rfl rfl rfl rfl (by omega) (by omega)) rfl (zA2 rfl rfl (zAe (zAb (ga _ _ (nxI (m.trains.length - (i + 1)) (by omega) ?_)))))))))))
    exact ⟨i + 1, _,_, rfl, by omega, rfl, by rw [goesTo_yes hi2 (by assumption)]; exact zEi gw, g7.tail⟩
   try simp only [zS] at g6
   refine zAr (zAk (zAb (gb _ _ (zAa (w_p (zBe rfl rfl rfl rfl (by omega) (by omega)) rfl (zA2 rfl rfl (zAe (zAb (ga _ _ (nxI (m.trains.length - (i + 1)) (by omega) ?_))))))))))
   exact ⟨i + 1, v, B, rfl, by omega, rfl, by rw [goesTo_no hi2 (by assumption)]; exact hown, gc⟩
  try simp only [zS] at g5
  refine zBr (zAj (zAj (zAy (zAb (gi _ _ (zAf (fun gR gx => (zAa (w_p (zBo (v := v) rfl rfl) rfl (w_p (zB9 (v := v) rfl rfl) rfl ?_))))))))))
  refine zA9 rfl rfl (zAe (zAb (gx _ _ (zA0 (zA1 (l := [.tmp 2, .tmp 3]) (vs := [_,_]) rfl ⟨⟨rfl, show _ = (v : Value) from rfl⟩, ⟨rfl, (rfl : _ = Value.int _ _)⟩, trivial⟩ ?_)))))
  have hil : i = m.trains.length := by omega
  subst hil
  have hq : goesP m = (goesTo m m.trains.length, 0) := by unfold goesP; rw [if_neg (by rw [zC1 hee]; simp)]
  obtain ⟨ag, cg, rfl, hsg⟩ := zEe (w0 := w0) hown rfl []
  rw [List.append_nil] at hsg
  exact ⟨_, ag, cg, by rw [hq]; rfl, by rw [hq]; exact hsg.top, eq2 hs⟩

end Go.Proofs.Sb
set_option maxRecDepth 20000
namespace Go.Proofs.Sb
open Go.Proofs.Tryz
open Go.Rt Go.Rt.Sh
attribute [local irreducible] WL WC Con Yd At Ats Sl Agree DW
theorem Try_SI_fb2 (x0 : Int) (w : World) : (Instr.buildSlice 30 1 [(0, .int .i64 x0)].toArray).run Tryz.prog w = .ok (.slice (some ⟨w.heap.size, 0, none⟩) 1 1) (w.alloc (Go.Rt.blk 3 [.int .i64 x0])) := by kernel_rfl
theorem moreP_1 {m : Market} {r : Int} (h : enterE m m.rooms.length [r] ≠ 0) : moreP m r = (0, enterE m m.rooms.length [r]) := by unfold moreP; rw [if_pos h]
theorem moreP_2 {m : Market} {r : Int} {n : Nat} (h : enterE m m.rooms.length [r] = 0) (h2 : moreTo m r.toNat 0 61 = some n) : moreP m r = ((n : Int), 0) := by unfold moreP; rw [if_neg (by simp [h]), h2]
theorem moreP_3 {m : Market} {r : Int} (h : enterE m m.rooms.length [r] = 0) (h2 : moreTo m r.toNat 0 61 = none) : moreP m r = (0,9) := by unfold moreP; rw [if_neg (by simp [h]), h2]
theorem more_here {m : Market} {r i k : Nat} (hk : k = 61 - i) (hi : i < 61) (h : servedS m (moreX m r i) (1 <<< m.shops.length - 1) = true) : moreTo m r i k = some i := by
  obtain ⟨q, rfl⟩ : ∃ q, k = q + 1 := ⟨k - 1, by omega⟩
  exact moreTo_yes h
theorem more_on {m : Market} {r i : Nat} (hi : i < 61) (h : servedS m (moreX m r i) (1 <<< m.shops.length - 1) = false) : moreTo m r i (61 - i) = moreTo m r (i + 1) (61 - (i + 1)) := by
  rw [show 61 - i = (61 - (i + 1)) + 1 by omega]; exact moreTo_no h
theorem more_end {m : Market} {r i : Nat} (hi : 61 ≤ i) : moreTo m r i (61 - i) = none := by rw [show 61 - i = 0 by omega]; rfl
theorem c38 {w0 w : World} {F : List (Nat × Obj)} (m : Market) (p : At3) (hm : MIn w0 F m p) (r : Int) (hs : St w0 w F) :
  Con Tryz.prog 38 [.agg (m.cells p).toArray, .int .i64 r] w fun v w' => v = .tuple #[.int .i64 (moreP m r).1, .int .i64 (moreP m r).2] ∧ St w0 w' F := by
  refine zAo (n := 45) func38 rfl rfl (zNl rfl) ?_
  have hlr := hm.lr
  refine zAf (fun K2 gb => (zAa (zCd (v := .agg #[.slice _ _ _, .slice _ _ _, .slice _ _ _]) (cs := [_,_,_]) zAc rfl rfl rfl hs (fun b3 w4 g6 => ?_))))
  refine zA9 rfl rfl (zA9 rfl rfl (zAe (zAb (gb _ _ (zAf (fun K7 ga => (zAa (w_p (zAs (vs := [_,_,_]) isAgg26 sizeOf26 g6 rfl rfl (aow 0 [_,_,_])) rfl (w_p (zAd (o := 0) (i := 0) underlying26 rfl sizeOf22 rfl rfl rfl) rfl ?_)))))))))
  refine w_p (zAi isAgg22 g6 rfl rfl (aow 0 [_])) rfl (w_p (zBd underlying22 rfl rfl) rfl (zA2 rfl rfl ?_))
  refine zBc (ps := [(0, _)]) (pv := [(0, .int _ _)]) (cs := [_]) zAc rfl rfl (fun w => Try_SI_fb2 _ w) g6 (fun b8 w9 gc => ?_)
  refine zA4 zAc call45 rfl rfl rfl rfl (c45 m p hm.cons.cons _ (by omega) (by omega) _ _ [r] (by simp) (zBx (i := 0) (rows := [[_]]) rfl (by simp) rfl) gc) ?_
  rintro _ gE (⟨hee, rfl, g4⟩ | ⟨hee, mb, mm, M, rfl, hM, g4⟩)
  ·
   refine w_p (zA6 rfl rfl) rfl (w_p (zBy rfl rfl rfl) rfl (w_p (zAq rfl rfl rfl) rfl (w_p (zBu rfl rfl) rfl (zBg rfl rfl (zAe (zAb (ga _ _ (zAf (fun gF gG => (zAf (fun gH gd => (zAa (zA2 rfl rfl ?_)))))))))))))
   refine w_p (zCj rfl rfl rfl rfl) rfl (zAe (zAb (gd _ _ (zAv rfl rfl (fun g5 => ?_) (fun g5 => ?_)))))
   ·
    try simp only [zS] at g5
    refine zAf (fun gI ge => (zAa (zA2 rfl rfl (zA9 rfl rfl (zBg rfl rfl (zAe (zAb (ge _ _ (zA0 (zAh (zA1 (l := [.tmp 4, .tmp 5]) (vs := [_,_]) rfl ⟨⟨rfl, (rfl : _ = Value.int _ _)⟩, ⟨rfl, (rfl : _ = Value.int _ _)⟩, trivial⟩ ?_)))))))))))
    exact ⟨by rw [moreP_1 hee]; rfl, g4.tail.tail⟩
   exfalso
   try simp only [zS] at g5
   first | exact hee g5 | exact g5 hee
  replace g4 := (show St _ _ (M ++ (_ :: _ :: _ :: F)) from g4)
  have hk : MK w0 ((mb, blk 146 [.slice p.ar m.rooms.length p.cr, .slice p.az m.shops.length p.cs, .slice p.at_ m.trains.length p.ct, .map (some mm)]) :: (b8, blk 3 [.int .i64 r]) :: (b3, blk 26 (m.cells p)) :: F) m p mb mm := ⟨hm.cons.cons.cons, zBm (i := 0) (vs := [_,_,_,_]) rfl rfl, check_ok (zC1 hee)⟩
  have hlr := hk.ok.lr
  have hls := hk.ok.ls
  have hlt := hk.ok.lt
  have hbx : Ats w0 ((b3, blk 26 (m.cells p)) :: F) b3 0 (m.cells p) := zBm (i := 0) rfl rfl
  refine w_p (zA6 rfl rfl) rfl (w_p (zBy rfl rfl rfl) rfl (w_p (zAq rfl rfl rfl) rfl (w_p (zBu rfl rfl) rfl (zBg rfl rfl (zAe (zAb (ga _ _ (zAf (fun gJ gf => (zAf (fun gK gg => (zAa (zA2 rfl rfl ?_)))))))))))))
  refine w_p (zCj rfl rfl rfl rfl) rfl (zAe (zAb (gg _ _ (zBj rfl rfl ?_))))
  refine zAr (zAb (gf _ _ (zAf (fun gL gh => (zAa (w_p (zBi rfl rfl) rfl (zCi zAc call49 rfl rfl rfl rfl (c49 m p mb mm hk.app _ g4) (fun gM gi => ?_))))))))
  refine zA5 (cs := iv [0,0,0,0,0,0,0,0]) zAc zeroValue114 rfl gi (fun gj gN gk => ?_)
  refine zDu (i := 0) (l := _) zAc sizeOf114 (by first | omega | rfl | (simp only [allX_len, zEz, zL] <;> omega)) rfl rfl rfl rfl rfl gk rfl (by first | omega | rfl | (simp only [allX_len, zEz, zL] <;> omega)) (fun gO gm => ?_)
  refine zAe (zAb (gh _ _ (zAf (fun gP gn => (zAf (fun gQ gq => ?_))))))
  have hrr := (zGw hee).2 r (.head _)
  have hsa := shl_all hls
  refine zAa (w_p (zBo (v := _) rfl rfl) rfl (zAe (zAb (gq _ _ (zAw ?_)))))
  refine zB2 [4,5,9,25,26,27,28,29,30,31,32,33,34,35,36,37,38,39,40,41,42,43,44] [25] (fun k vs w => ∃ (i : Nat) (Mq : List (Nat × Obj)), vs = [.int .i64 i] ∧ i ≤ 61 ∧ k = 61 - i ∧ Memo m mm Mq ∧ moreTo m r.toNat 0 61 = moreTo m r.toNat i (61 - i) ∧ St w0 w ((gj, blk 114 (iv (moreX m r.toNat i))) :: (Mq ++ ((mb, blk 146 [.slice p.ar m.rooms.length p.cr, .slice p.az m.shops.length p.cs, .slice p.at_ m.trains.length p.ct, .map (some mm)]) :: (b8, blk 3 [.int .i64 r]) :: (b3, blk 26 (m.cells p)) :: F)))) (61) ?_ ?_
  ·
   exact ⟨0, M, rfl, by omega, by omega, hM, rfl, by rw [moreX_zero]; exact gm⟩
  intro k vs μ gR hI gS gr
  obtain ⟨i, Mq, rfl, hia, rfl, hMq, hmo, hs⟩ := hI
  refine zAf (fun gT gt => (zAa (w_p (zCb rfl rfl rfl rfl) rfl (zAe (zAb (gt _ _ (zAf (fun gU gu => (zAv rfl rfl (fun g7 => ?_) (fun g7 => ?_))))))))))
  ·
   try simp only [zS] at g7
   refine zAr (zAb (gu _ _ (zAf (fun gV gw => (zAw ?_)))))
   refine zAf (fun gW gx => (zAa (zA2 rfl rfl (zBg rfl rfl (zAe (zAb (gx _ _ (zAf (fun gX gy => (zAf (fun gY gz => (zCc [7] [(0,0),(1,1),(2,0),(3,1),(4,0),(5,0),(6,0),(7,3)] zB7 (by kernel_rfl) hs (fun gZ g8 => ?_)))))))))))))
   refine d_w rfl (fun _ => zBi rfl rfl) rfl ?_
   refine zA3 rfl zAc rfl g8 (fun _ hq => (zC2 (i := 0) isAgg114 sizeOf114 (by first | omega | rfl | (simp only [allX_len, zEz, zL] <;> omega)) hq rfl rfl rfl)) ?_
   refine d_w rfl (fun _ => zAd (o := 1) (i := 1) underlying26 rfl sizeOf23 rfl rfl rfl) rfl ?_
   refine zA3 rfl zAc rfl g8 (fun _ hq => (zAi isAgg23 hq.tail.drop.tail.tail rfl rfl (show Ats _ _ _ _ [_] from Ats.part hbx 1 1))) ?_
   refine d_w rfl (fun _ => zBd underlying23 rfl rfl) rfl (d_w rfl (fun _ => y_shl (x := 1) (y := _) rfl rfl rfl rfl rfl rfl (by first | omega | exact zCs (by omega)) (by first | omega | exact zCs (by omega))) rfl ?_)
   refine d_w rfl (fun _ => zCt (z' := ((1 <<< m.shops.length - 1 : Nat) : Int)) (by omega) (zDk rfl rfl rfl rfl (by omega) (by omega))) rfl ?_
   refine zCa rfl ?_
   refine zA4 zAc call69 rfl rfl rfl rfl (c69 (X := (_ :: [])) m p mb mm hk _ (moreX_small hk.ok _ i (by omega)) _ hMq g8) ?_
   rintro _ hG ⟨rfl, M60, gA, g3⟩
   replace g3 := (show St _ _ (_ :: M60 ++ (_ :: _ :: _ :: F)) from g3)
   refine zAe (qn ?_)
   refine zB5 ?_
   refine zAb (gz _ _ (zAv rfl rfl (fun g9 => ?_) (fun g9 => ?_)))
   ·
    try simp only [zS] at g9
    refine zAf (fun hH gB => (zAa (zA2 rfl rfl (zBg rfl rfl (zA9 rfl rfl (zAe (zAb (gB _ _ (zA0 (zAh (zAz (zAh (zAh (zAz (zAh (zA1 (l := [.tmp 4, .tmp 5]) (vs := [_,_]) rfl ⟨⟨rfl, (rfl : _ = Value.int _ _)⟩, ⟨rfl, (rfl : _ = Value.int _ _)⟩, trivial⟩ ?_))))))))))))))))
    first
      | exact ⟨by rw [moreP_2 hee (hmo.trans (more_here rfl (by omega) (by assumption)))]; rfl, g3.tail.drop.tail.tail.tail⟩
      | exact ⟨by rw [moreP_3 hee (hmo.trans (more_end (by omega)))]; rfl, g3.tail.drop.tail.tail.tail⟩
   try simp only [zS] at g9
   refine zAr (zAb (gy _ _ ?_))
   have hgd := zEw (by omega) (by omega) (moreX_small hk.ok r.toNat i (by omega)).2 r.toNat
   refine zAa (zA2 rfl rfl (w_p (zAd (o := 0) (i := 0) underlying114 rfl sizeOf112 rfl rfl rfl) rfl (w_p (zBn underlying112 sizeOf3 rfl rfl rfl rfl (i := r.toNat) (by first | rfl | omega) (by omega)) rfl ?_)))
   refine w_p (zAi isAgg3 g3 rfl rfl (zDr (i := 0) (j := r.toNat) rfl (by first | omega | rfl | (simp only [allX_len, zEz, zL] <;> omega)))) rfl ?_
   refine w_p (zBe rfl rfl rfl rfl (by omega) (by omega)) rfl (w_p (zAd (o := 0) (i := 0) underlying114 rfl sizeOf112 rfl rfl rfl) rfl (w_p (zBn underlying112 sizeOf3 rfl rfl rfl rfl (i := r.toNat) (by first | rfl | omega) (by omega)) rfl ?_))
   refine zDe (i := 0) (j := r.toNat) zAc sizeOf3 rfl rfl rfl rfl g3 rfl (by first | omega | rfl | (simp only [allX_len, zEz, zL] <;> omega)) (fun hO gC => ?_)
   refine zAe (zAk (zAb (gw _ _ (zAa (w_p (zBe rfl rfl rfl rfl (by omega) (by omega)) rfl (zA2 rfl rfl (zAe (zAb (gr _ _ (nxI (61 - (i + 1)) (by omega) ?_))))))))))
   exact ⟨i + 1, M60, rfl, by omega, rfl, gA, hmo.trans (more_on (by omega) (by assumption)), by rw [← moreX_succ (by omega)]; exact gC⟩
  try simp only [zS] at g7
  refine zBr (zAj (zAj (zAy (zAb (gn _ _ (zAf (fun hY gD => (zAa (zA9 rfl rfl (zA9 rfl rfl (zAe (zAb (gD _ _ (zA0 (zA1 (l := [.tmp 4, .tmp 5]) (vs := [_,_]) rfl ⟨⟨rfl, (rfl : _ = Value.int _ _)⟩, ⟨rfl, (rfl : _ = Value.int _ _)⟩, trivial⟩ ?_)))))))))))))))
  first
    | exact ⟨by rw [moreP_2 hee (hmo.trans (more_here rfl (by omega) (by assumption)))]; rfl, hs.tail.drop.tail.tail.tail⟩
    | exact ⟨by rw [moreP_3 hee (hmo.trans (more_end (by omega)))]; rfl, hs.tail.drop.tail.tail.tail⟩

end Go.Proofs.Sb
set_option maxRecDepth 20000
namespace Go.Proofs.Sb
open Go.Proofs.Tryz
open Go.Rt Go.Rt.Sh
attribute [local irreducible] WL WC Con Yd At Ats Sl Agree DW
theorem Try_SJ_fb2  (w : World) : (Instr.buildSlice 24 0 [].toArray).run Tryz.prog w = .ok (.slice (some ⟨w.heap.size, 0, none⟩) 0 0) (w.alloc (Go.Rt.blk 53 [])) := by kernel_rfl
theorem Try_info53 : Tryz.prog.info? 53 = some Tryz.t53 := by kernel_rfl
theorem Try_SJ_fb4 (x0 : Int) (w : World) : (Instr.buildSlice 30 1 [(0, .int .i64 x0)].toArray).run Tryz.prog w = .ok (.slice (some ⟨w.heap.size, 0, none⟩) 1 1) (w.alloc (Go.Rt.blk 3 [.int .i64 x0])) := by kernel_rfl
theorem trows_one (l : List Train) : ∀ row ∈ trows l, ∀ u ∈ row, u.oneCell' = true := by
  intro row hr u hu
  obtain ⟨f, _, rfl⟩ := List.mem_map.1 hr
  simp only [Train.cells, List.mem_cons, List.not_mem_nil, or_false] at hu
  rcases hu with rfl | rfl | rfl | rfl <;> rfl
theorem own_some {t : TypeId} {sz n : Nat} {v : Value} {xs : List Value} {B : List (Nat × Obj)} (h : Rt.Own v t sz n xs B) (hn : 0 < n) : ∃ b cap cs, v = .slice (some ⟨b, 0, none⟩) n cap ∧ B = [(b, blk t cs)] ∧ n ≤ cap ∧ cap ≤ maxLen ∧ cs.length = cap * sz ∧ cs.take (n * sz) = xs := by
  rcases h.2 with ⟨_, h0, _⟩ | ⟨b, cap, cs, h1, h2, h3, h4, h5, h6⟩
  · omega
  · exact ⟨b, cap, cs, h1, h2, h3, h4, h5, h6⟩
theorem zHp {w0 : World} {L : List (Nat × Obj)} {i b n : Nat} {t : TypeId} {cs : List Value} {l : List Train} (hi : L[i]? = some (b, blk t cs)) (hn : l.length = n) (h : cs.take (n * 4) = (trows l).flatten) : Sl w0 L (some ⟨b, 0, none⟩) 4 (trows l) :=
  zBx hi (by intro row hr; obtain ⟨f, _, rfl⟩ := List.mem_map.1 hr; rfl) (by simpa [trows, hn] using h)
theorem late_perm {w0 w : World} {B M F : List (Nat × Obj)} {x y z : Nat × Obj} (h : St w0 w (B ++ (M ++ (x :: y :: z :: F)))) : St w0 w (z :: x :: F) := by
  have h1 : St w0 w (x :: y :: z :: F) := h.drop.drop
  exact ((h1.perm (zB3 [x] [y] (z :: F))).tail).perm (zB3 [x] [z] F)
theorem c71 {w0 w : World} {F : List (Nat × Obj)} (a : Option Addr) (c : Nat) (l : List Train) (hl : l.length ≤ 1000000) (hc : l.length ≤ c) (ha : Sl w0 F a 4 (trows l))  (hs : St w0 w F) :
  Con Tryz.prog 71 [.slice a l.length c] w fun v w' => ∃ B', Rt.Own v 53 4 l.length (trows l).flatten B' ∧ St w0 w' (B' ++ F) := by
  refine zAo (n := 8) func71 rfl rfl (zNl rfl) ?_
  refine zAf (fun K2 g6 => (zAa (zA9 rfl rfl (zAe (zAb (g6 _ _ (zAf (fun K4 g7 => (zAf (fun K6 g8 => (zAa (w_p (zAx rfl rfl) rfl ?_))))))))))))
  refine w_p (y_sliceNil underlying24 rfl rfl rfl rfl) rfl (zAe (zAb (g8 _ _ (zAv rfl rfl (fun h7 => ?_) (fun h7 => ?_)))))
  ·
   try simp only [zS] at h7
   refine zAf (fun K9 g9 => (zAa (zA9 rfl rfl (zAe (zAb (g9 _ _ (zA0 (zAh (zA1 (l := [.tmp 2]) (vs := [_]) rfl ⟨⟨rfl, show _ = (.slice _ _ _ : Value) from rfl⟩, trivial⟩ ?_)))))))))
   have hr := sl_none (L := F) (w0 := w0) (by have : a = none := (by simpa using ‹a.isNone = true›); subst this; exact ha)
   have hl0 : l = [] := by simpa [trows] using hr
   subst hl0
   exact ⟨[], zEv 53 4, hs⟩
  try simp only [zS] at h7
  refine zAr (zAb (g7 _ _ (zAf (fun gd ga => (zAa (zBc (ps := []) (pv := []) (cs := []) zAc rfl rfl (fun w => Try_SJ_fb2  w) hs (fun ge gf gb => ?_)))))))
  refine w_p (zAx rfl rfl) rfl (zDd (X := ([])) (B := [_]) (rows := trows l) (sz := 4) (bytes := 32) zAc underlying24 Try_info53 rfl rfl rfl rfl rfl rfl rfl rfl rfl gb own_made ha.cons (by simp [trows]) (fun h => by subst h; simp at h7) (trows_one l) (by simp only [maxLen]; omega) (by omega) (fun g4 gg gc g5 g3 => ?_))
  replace g3 := (show St _ _ (gc ++ (F)) from g3)
  refine w_p (zB9 (v := g4) rfl rfl) rfl (zAe (zAb (ga _ _ (zA0 (zA1 (l := [.tmp 2]) (vs := [_]) rfl ⟨⟨rfl, show _ = (g4 : Value) from rfl⟩, trivial⟩ ?_)))))
  rw [Nat.zero_add, List.nil_append] at g5
  exact ⟨_, g5, g3⟩

theorem look_late {w0 w : World} {F : List (Nat × Obj)} (m : Market) (i : Nat) (p : At3) (hs : St w0 w F) :
    Con Tryz.prog 72 [.agg #[.slice p.ar m.rooms.length p.cr, .slice p.az m.shops.length p.cs, .slice p.at_ m.trains.length p.ct]] w fun v w' => ∃ mb mm M, v = .pointer (some ⟨mb, 0, none⟩) ∧ Memo (lateM m i) mm M ∧ St w0 w' (M ++ ((mb, blk 146 [.slice p.ar m.rooms.length p.cr, .slice p.az m.shops.length p.cs, .slice p.at_ (setLate m.trains i).length p.ct, .map (some mm)]) :: F)) := by
  have h := c72 (lateM m i) p hs
  rw [lateM_cells] at h
  exact h
theorem c39 {w0 w : World} {F : List (Nat × Obj)} (m : Market) (p : At3) (hm : MIn w0 F m p) (r : Int) (hs : St w0 w F) :
  Con Tryz.prog 39 [.agg (m.cells p).toArray, .int .i64 r] w fun v w' => v = .tuple #[.int .i64 (lateP m r).1, .int .i64 (lateP m r).2] ∧ St w0 w' F := by
  refine zAo (n := 65) func39 rfl rfl (zNl rfl) ?_
  have hlt := hm.lt
  refine zAf (fun K2 gf => (zAa (zCd (v := .agg #[.slice _ _ _, .slice _ _ _, .slice _ _ _]) (cs := [_,_,_]) zAc rfl rfl rfl hs (fun b3 w4 g7 => ?_))))
  refine zA9 rfl rfl (zA9 rfl rfl (zAe (zAb (gf _ _ (zAf (fun K7 gc => (zAa (w_p (zAs (vs := [_,_,_]) isAgg26 sizeOf26 g7 rfl rfl (aow 0 [_,_,_])) rfl (w_p (zAd (o := 2) (i := 2) underlying26 rfl sizeOf24 rfl rfl rfl) rfl ?_)))))))))
  refine w_p (zAi isAgg24 g7 rfl rfl (aow 0 [_])) rfl (w_p (zBd underlying24 rfl rfl) rfl (zA2 rfl rfl ?_))
  refine zBc (ps := [(0, _)]) (pv := [(0, .int _ _)]) (cs := [_]) zAc rfl rfl (fun w => Try_SJ_fb4 _ w) g7 (fun b8 w9 gg => ?_)
  refine zA4 zAc call45 rfl rfl rfl rfl (c45 m p hm.cons.cons _ (by omega) (by omega) _ _ [r] (by simp) (zBx (i := 0) (rows := [[_]]) rfl (by simp) rfl) gg) ?_
  rintro _ gz (⟨hee, rfl, g3⟩ | ⟨hee, mb, mm, M, rfl, hM, g3⟩)
  ·
   refine w_p (zA6 rfl rfl) rfl (w_p (zBy rfl rfl rfl) rfl (w_p (zAq rfl rfl rfl) rfl (w_p (zBu rfl rfl) rfl (zBg rfl rfl (zAe (zAb (gc _ _ (zAf (fun gA gB => (zAf (fun gC gh => (zAa (zA2 rfl rfl ?_)))))))))))))
   refine w_p (zCj rfl rfl rfl rfl) rfl (zAe (zAb (gh _ _ (zAv rfl rfl (fun g4 => ?_) (fun g4 => ?_)))))
   ·
    try simp only [zS] at g4
    refine zAf (fun gD gi => (zAa (zA2 rfl rfl (zA9 rfl rfl (zBg rfl rfl (zAe (zAb (gi _ _ (zA0 (zAh (zA1 (l := [.tmp 4, .tmp 5]) (vs := [_,_]) rfl ⟨⟨rfl, (rfl : _ = Value.int _ _)⟩, ⟨rfl, (rfl : _ = Value.int _ _)⟩, trivial⟩ ?_)))))))))))
    exact ⟨by rw [lateP_1 hee]; rfl, g3.tail.tail⟩
   exfalso
   try simp only [zS] at g4
   first | exact hee g4 | exact g4 hee
  replace g3 := (show St _ _ (M ++ (_ :: _ :: _ :: F)) from g3)
  have hk : MK w0 ((mb, blk 146 [.slice p.ar m.rooms.length p.cr, .slice p.az m.shops.length p.cs, .slice p.at_ m.trains.length p.ct, .map (some mm)]) :: (b8, blk 3 [.int .i64 r]) :: (b3, blk 26 (m.cells p)) :: F) m p mb mm := ⟨hm.cons.cons.cons, zBm (i := 0) (vs := [_,_,_,_]) rfl rfl, check_ok (zC1 hee)⟩
  have hlr := hk.ok.lr
  have hls := hk.ok.ls
  have hlt := hk.ok.lt
  have hbx : Ats w0 ((b3, blk 26 (m.cells p)) :: F) b3 0 (m.cells p) := zBm (i := 0) rfl rfl
  refine w_p (zA6 rfl rfl) rfl (w_p (zBy rfl rfl rfl) rfl (w_p (zAq rfl rfl rfl) rfl (w_p (zBu rfl rfl) rfl (zBg rfl rfl (zAe (zAb (gc _ _ (zAf (fun gE gj => (zAf (fun gF gk => (zAa (zA2 rfl rfl ?_)))))))))))))
  refine w_p (zCj rfl rfl rfl rfl) rfl (zAe (zAb (gk _ _ (zBj rfl rfl ?_))))
  refine zAr (zAb (gj _ _ (zAf (fun gG gm => ?_))))
  have hsa := shl_all hls
  refine zAa (w_p (zAd (o := 1) (i := 1) underlying26 rfl sizeOf23 rfl rfl rfl) rfl (w_p (zAi isAgg23 g3.drop.tail.tail rfl rfl (show Ats _ _ _ _ [_] from Ats.part hbx 1 1)) rfl (w_p (zBd underlying23 rfl rfl) rfl (w_p (y_shl (x := 1) (y := _) rfl rfl rfl rfl rfl rfl (by first | omega | exact zCs (by omega)) (by first | omega | exact zCs (by omega))) rfl ?_))))
  refine w_p (zCt (z' := ((1 <<< m.shops.length - 1 : Nat) : Int)) (by omega) (zDk rfl rfl rfl rfl (by omega) (by omega))) rfl (zBg rfl rfl (zAe (zAb (gm _ _ (zAf (fun gH gn => (zAa (w_p (zBi rfl rfl) rfl ?_))))))))
  refine w_p (zBi rfl rfl) rfl (zCi zAc call49 rfl rfl rfl rfl (c49 m p mb mm hk.app _ g3) (fun gI gq => ?_))
  refine zA2 rfl rfl (zA4 zAc call70 rfl rfl rfl rfl (c70 (X := []) m p mb mm hk _ (zDz hk.ok _) _ hM gq) ?_)
  rintro _ gJ ⟨gd, al_B36, cl_B36, M35, rfl, hsl_B36, gK, g8⟩
  replace g8 := (show St _ _ (gd ++ (M35 ++ (_ :: _ :: _ :: F))) from g8)
  refine w_p (zA6 rfl rfl) rfl (w_p (zCm rfl rfl rfl) rfl (w_p (zAq rfl rfl rfl) rfl (w_p (zBh rfl rfl) rfl (zBg rfl rfl (zAe (zAb (gn _ _ (zAf (fun gL gr => ?_)))))))))
  have ge := late_perm (show St _ _ (gd ++ (M35 ++ (_ :: _ :: _ :: F))) from g8)
  have hrr := (zGw hee).2 r (.head _)
  have hrt : r.toNat < m.trains.length := by omega
  have htd := check_days (zC1 hee) _ (List.getElem_mem hrt)
  have htr := hk.ok.train _ (List.getElem_mem hrt)
  have hwb1 := worst_bound hk.ok (zDz hk.ok false) (1 <<< m.shops.length - 1)
  have hm1 : MIn w0 ((mb, blk 146 [.slice p.ar m.rooms.length p.cr, .slice p.az m.shops.length p.cs, .slice p.at_ m.trains.length p.ct, .map (some mm)]) :: F) m p := hm.cons
  have hkm : MK w0 ((mb, blk 146 [.slice p.ar m.rooms.length p.cr, .slice p.az m.shops.length p.cs, .slice p.at_ m.trains.length p.ct, .map (some mm)]) :: F) m p mb mm := ⟨hm.cons, zBm (i := 0) (vs := [_,_,_,_]) rfl rfl, hk.ok⟩
  refine zAa (w_p (zAd (o := 2) (i := 2) underlying26 rfl sizeOf24 rfl rfl rfl) rfl (w_p (zAi isAgg24 ge rfl rfl (aow 0 [_])) rfl ?_))
  refine zA4 zAc call71 rfl rfl rfl rfl (c71 _ _ m.trains (by omega) hm.ct hm1.t.cons ge) ?_
  rintro _ gM ⟨BC, hown, g9⟩
  obtain ⟨bc, cap, cs0, rfl, rfl, hcap, hcapm, hcl0, hcs0⟩ := own_some hown (by omega)
  replace g9 := (show St _ _ (_ :: _ :: _ :: F) from g9)
  refine w_p (zAd (o := 2) (i := 2) underlying26 rfl sizeOf24 rfl rfl rfl) rfl (zBt 1 (.slice _ _ _) [_] sizeOf24 g9 (fun gN g5 => ?_))
  refine zAe (zAb (gr _ _ (zAf (fun gO gt => ?_))))
  replace g5 := (show St _ _ ((bc, blk 53 cs0) :: (b3, blk 26 [.slice p.ar m.rooms.length p.cr, .slice p.az m.shops.length p.cs, .slice (some ⟨bc, 0, none⟩) m.trains.length cap]) :: (mb, blk 146 [.slice p.ar m.rooms.length p.cr, .slice p.az m.shops.length p.cs, .slice p.at_ m.trains.length p.ct, .map (some mm)]) :: F) from g5)
  obtain ⟨bx, ox, hbx2, hrow⟩ := sl_trows (zHp (w0 := w0) (L := (bc, blk 53 cs0) :: (b3, blk 26 [.slice p.ar m.rooms.length p.cr, .slice p.az m.shops.length p.cs, .slice (some ⟨bc, 0, none⟩) m.trains.length cap]) :: (mb, blk 146 [.slice p.ar m.rooms.length p.cr, .slice p.az m.shops.length p.cs, .slice p.at_ m.trains.length p.ct, .map (some mm)]) :: F) (i := 0) rfl rfl hcs0) hrt
  cases hbx2
  refine zAa (w_p (zAd (o := 2) (i := 2) underlying26 rfl sizeOf24 rfl rfl rfl) rfl (w_p (zAi isAgg24 g5 rfl rfl (aow 1 [_])) rfl (zA2 rfl rfl (w_p (zA7 underlying24 sizeOf53 rfl rfl rfl rfl (i := r.toNat) (by omega) (by omega)) rfl ?_))))
  refine w_p (zAd (o := 2) (i := 2) underlying53 rfl sizeOf3 rfl rfl rfl) rfl (w_p (zAi isAgg3 g5 rfl rfl (show Ats _ _ _ _ [_] from Ats.part hrow 2 1)) rfl (w_p (zBe rfl rfl rfl rfl (by omega) (by omega)) rfl (w_p (zA7 underlying24 sizeOf53 rfl rfl rfl rfl (i := r.toNat) (by omega) (by omega)) rfl ?_)))
  refine w_p (zAd (o := 2) (i := 2) underlying53 rfl sizeOf3 rfl rfl rfl) rfl (zD9 (i := 0) (v := .int _ _) (vs := [_]) zAc sizeOf3 rfl rfl rfl rfl rfl (by simp [Value.oneCell']) g5 rfl (show 0 + r.toNat * 4 + 2 + 1 ≤ cs0.length by omega) (fun gP g6 => ?_))
  have hcs2 : (cs0.set (r.toNat * 4 + 2) (.int .i64 ((m.trains[r.toNat]'hrt).days + 1))).take (m.trains.length * 4) = (trows (setLate m.trains r.toNat)).flatten := cells_late rfl hcs0 hrt
  replace g6 := (show St _ _ ((bc, blk 53 (cs0.set (r.toNat * 4 + 2) (.int .i64 ((m.trains[r.toNat]'hrt).days + 1)))) :: (b3, blk 26 [.slice p.ar m.rooms.length p.cr, .slice p.az m.shops.length p.cs, .slice (some ⟨bc, 0, none⟩) m.trains.length cap]) :: (mb, blk 146 [.slice p.ar m.rooms.length p.cr, .slice p.az m.shops.length p.cs, .slice p.at_ m.trains.length p.ct, .map (some mm)]) :: F) from (by have h6 := g6; simp only [setMany, Nat.zero_add] at h6; exact h6))
  have hm2 : MIn w0 ((bc, blk 53 (cs0.set (r.toNat * 4 + 2) (.int .i64 ((m.trains[r.toNat]'hrt).days + 1)))) :: (b3, blk 26 [.slice p.ar m.rooms.length p.cr, .slice p.az m.shops.length p.cs, .slice (some ⟨bc, 0, none⟩) m.trains.length cap]) :: (mb, blk 146 [.slice p.ar m.rooms.length p.cr, .slice p.az m.shops.length p.cs, .slice p.at_ m.trains.length p.ct, .map (some mm)]) :: F) (lateM m r.toNat) { p with at_ := some ⟨bc, 0, none⟩, ct := cap } := ⟨hm.r.cons.cons.cons, hm.s.cons.cons.cons, zHp (i := 0) rfl (zEc _ _) hcs2, hm.lr, hm.ls, (by show (setLate _ _).length ≤ _; rw [zEc]; exact hm.lt), hm.cr, hm.cs, (by show (setLate _ _).length ≤ cap; rw [zEc]; exact hcap), hm.nr, hm.ns⟩
  refine zAe (zAb (gt _ _ (zAf (fun gQ gu => (zAa (w_p (zAs (vs := [_,_,_]) isAgg26 sizeOf26 g6 rfl rfl (aow 1 [_,_,_])) rfl ?_))))))
  refine zA4 zAc call72 rfl rfl rfl rfl (look_late m r.toNat { p with at_ := some ⟨bc, 0, none⟩, ct := cap } g6) ?_
  rintro _ gR ⟨mb2, mm2, M2, rfl, gw, ga⟩
  replace ga := (show St _ _ (M2 ++ (_ :: _ :: _ :: _ :: F)) from ga)
  have hk2 : MK w0 ((mb2, blk 146 [.slice p.ar m.rooms.length p.cr, .slice p.az m.shops.length p.cs, .slice (some ⟨bc, 0, none⟩) (setLate m.trains r.toNat).length cap, .map (some mm2)]) :: (bc, blk 53 (cs0.set (r.toNat * 4 + 2) (.int .i64 ((m.trains[r.toNat]'hrt).days + 1)))) :: (b3, blk 26 [.slice p.ar m.rooms.length p.cr, .slice p.az m.shops.length p.cs, .slice (some ⟨bc, 0, none⟩) m.trains.length cap]) :: (mb, blk 146 [.slice p.ar m.rooms.length p.cr, .slice p.az m.shops.length p.cs, .slice p.at_ m.trains.length p.ct, .map (some mm)]) :: F) (lateM m r.toNat) { p with at_ := some ⟨bc, 0, none⟩, ct := cap } mb2 mm2 := ⟨hm2.cons, zBm (i := 0) (vs := [_,_,_,_]) rfl rfl, lateM_ok (zC1 hee) _⟩
  have hwb2 := worst_bound hk2.ok (zDz hk.ok false) (1 <<< m.shops.length - 1)
  refine w_p (zBi rfl rfl) rfl (zCi zAc call49 rfl rfl rfl rfl (c49 m p mb mm hkm.cons.cons.cons.app _ ga) (fun gS gx => ?_))
  refine zA2 rfl rfl (zA4 zAc call70 rfl rfl rfl rfl (c70 (X := []) (lateM m r.toNat) { p with at_ := some ⟨bc, 0, none⟩, ct := cap } mb2 mm2 hk2 _ (zDz hk.ok _) _ gw gx) ?_)
  rintro _ gT ⟨B3, al3, cl3, M3, rfl, hsl3, gU, gb⟩
  replace gb := (show St _ _ (B3 ++ (M3 ++ (_ :: _ :: _ :: _ :: F))) from gb)
  refine w_p (zA6 rfl rfl) rfl (w_p (zCm rfl rfl rfl) rfl (w_p (zAq rfl rfl rfl) rfl (w_p (zBh rfl rfl) rfl (zBg rfl rfl (zAe (zAb (gu _ _ (zAf (fun gV gy => (zAa (zA2 rfl rfl ?_)))))))))))
  refine zA2 rfl rfl (w_p (zDk rfl rfl rfl rfl (by omega) (by omega)) rfl (w_p (y_max2 rfl rfl rfl rfl) rfl (zBg rfl rfl (zA9 rfl rfl (zAe (zAb (gy _ _ (zA0 (zA1 (l := [.tmp 4, .tmp 5]) (vs := [_,_]) rfl ⟨⟨rfl, (rfl : _ = Value.int _ _)⟩, ⟨rfl, (rfl : _ = Value.int _ _)⟩, trivial⟩ ?_)))))))))
  exact ⟨by rw [lateP_2 hee]; rfl, gb.drop.drop.tail.tail.tail.tail⟩

end Go.Proofs.Sb
set_option maxRecDepth 20000
namespace Go.Proofs.Sb
open Go.Proofs.Tryz
open Go.Rt Go.Rt.Sh
attribute [local irreducible] WL WC Con Yd At Ats Sl Agree DW
theorem Try_flat117 : flatInts Tryz.prog 117 6 = true := by kernel_rfl
theorem goes_at {w0 w : World} {F : List (Nat × Obj)} (m : Market) (p : At3) (mb mm : Nat) (hk : MK w0 F m p mb mm) (i : Nat) (hi : i < m.trains.length) {z : Int} (hz : z = i) (hs : St w0 w F) : Con Tryz.prog 46 [.pointer (some ⟨mb, 0, none⟩), .int .i64 z] w fun v w' => v = .bool (leaves m m.trains[i]) ∧ St w0 w' F := by subst hz; exact c46 m p mb mm hk i hi hs
def NextC (m : Market) (mb mm sub bp bl bla bY bs bn : Nat) (Ls : List (List Int)) (J : Nat → List (Nat × Obj) → Prop) (Js : List (Nat × Obj) → Prop) (yv : Value) (w0 : World) (F : List (Nat × Obj)) (rem : Nat) : Prop :=
  ∀ (d : Nat) (pre cur last : List Int) (i : Nat) (R : List (List Int)) (x : List Int) (B M X : List (Nat × Obj)) (w : World), d + rem = m.trains.length → pre.length = d → cur.length = 6 → cur.take d = pre → (∀ j, m.trains.length ≤ j → cur.getD j 0 = 0) → GoodX x d → i ≤ Ls.length →
    Ls.drop i = ((loadsX m sub rem x).map fun l => pad6 (pre ++ l)) ++ R → last.length = 6 → last ∉ Ls.drop i → J i B → Memo m mm M → St w0 w ((bn, blk 148 [.func (.func 82) #[] #[.pointer (some ⟨bp, 0, none⟩), .pointer (some ⟨bl, 0, none⟩), .pointer (some ⟨bla, 0, none⟩), .pointer (some ⟨bY, 0, none⟩), .pointer (some ⟨bs, 0, none⟩), .pointer (some ⟨bn, 0, none⟩)]]) :: (bla, blk 117 (iv last)) :: (bl, blk 117 (iv cur)) :: (bY, blk 147 [yv]) :: (X ++ (B ++ (M ++ F)))) →
    Con Tryz.prog 82 [ia x, .pointer (some ⟨bp, 0, none⟩), .pointer (some ⟨bl, 0, none⟩), .pointer (some ⟨bla, 0, none⟩), .pointer (some ⟨bY, 0, none⟩), .pointer (some ⟨bs, 0, none⟩), .pointer (some ⟨bn, 0, none⟩)] w fun v w' => ∃ (cur' last' : List Int) (B' M' : List (Nat × Obj)), cur'.length = 6 ∧ last'.length = 6 ∧ cur'.take d = pre ∧ (∀ j, m.trains.length ≤ j → cur'.getD j 0 = 0) ∧ Memo m mm M' ∧ St w0 w' ((bn, blk 148 [.func (.func 82) #[] #[.pointer (some ⟨bp, 0, none⟩), .pointer (some ⟨bl, 0, none⟩), .pointer (some ⟨bla, 0, none⟩), .pointer (some ⟨bY, 0, none⟩), .pointer (some ⟨bs, 0, none⟩), .pointer (some ⟨bn, 0, none⟩)]]) :: (bla, blk 117 (iv last')) :: (bl, blk 117 (iv cur')) :: (bY, blk 147 [yv]) :: (X ++ (B' ++ (M' ++ F)))) ∧
      ((v = .bool true ∧ ∃ i', i' ≤ Ls.length ∧ Ls.drop i' = R ∧ last' ∉ R ∧ J i' B') ∨ (v = .bool false ∧ Js B'))
theorem seg_more {Ls R : List (List Int)} {f : Nat → List (List Int)} {k n i : Nat} (hn : n < k) (h : Ls.drop i = (((List.range k).drop n).flatMap f) ++ R) : Ls.drop i = f n ++ ((((List.range k).drop (n + 1)).flatMap f) ++ R) := by
  rw [range_drop hn, List.flatMap_cons, List.append_assoc] at h; exact h
theorem fr7 {w0 w : World} {R : List (Nat × Obj)} {a b c e f g h : Nat × Obj} (hs : St w0 w (a :: b :: c :: e :: f :: g :: h :: R)) : St w0 w (e :: f :: g :: h :: a :: b :: c :: R) := hs.perm (zB3 [a, b, c] [e, f, g, h] R)
theorem bk7 {w0 w : World} {R : List (Nat × Obj)} {a b c e f g h : Nat × Obj} (hs : St w0 w (e :: f :: g :: h :: a :: b :: c :: R)) : St w0 w (a :: b :: c :: e :: f :: g :: h :: R) := hs.perm (zB3 [e, f, g, h] [a, b, c] R)
theorem c82 {w0 : World} {F : List (Nat × Obj)} (m : Market) (p : At3) (mb mm : Nat) (hk : MK w0 F m p mb mm)  (sub bp bl bla bY bs bn : Nat) (hsub : sub < 1000) (h1 : Ats w0 F bp 0 [.pointer (some ⟨mb, 0, none⟩)]) (h5 : Ats w0 F bs 0 [.int .i64 (sub : Int)]) (Ls : List (List Int)) (hnd : Ls.Nodup) (J : Nat → List (Nat × Obj) → Prop) (Js : List (Nat × Obj) → Prop) (yv : Value) (hy : ∀ (i : Nat) (x : List Int) (R : List (List Int)) (B M X : List (Nat × Obj)) (w : World), Ls.drop i = x :: R → J i B → Memo m mm M → St w0 w (X ++ (B ++ (M ++ F))) → FCon Tryz.prog yv [ia x] w fun v w' => ∃ B' M', Memo m mm M' ∧ St w0 w' (X ++ (B' ++ (M' ++ F))) ∧ (v = .bool true ∧ J (i + 1) B' ∨ v = .bool false ∧ Js B')) (rem : Nat) (ih : ∀ r, rem = r + 1 → NextC m mb mm sub bp bl bla bY bs bn Ls J Js yv w0 F r) : NextC m mb mm sub bp bl bla bY bs bn Ls J Js yv w0 F rem := by
  intro d pre cur last i R x B M X w hdr hpl hcl hk6 hz hgx hi hpos hll hlast hJ hM hs
  obtain ⟨ar, cr, as_, cs, at_, ct⟩ := p
  have hb := hk.b
  have hlr := hk.ok.lr
  have hls := hk.ok.ls
  have hlt := hk.ok.lt
  have hat := hgx.at7
  have hxl := hgx.len
  refine zAo (n := 106) func82 rfl rfl (zNl rfl) ?_
  refine zAf (fun K2 gA => (zAa (zHo (l := _) zAc rfl rfl rfl hs (fun b3 w4 gB => ?_))))
  refine zA9 rfl rfl (zAe (zAb (gA _ _ (zAf (fun K7 gC => (zAf (fun K9 gD => (zCc [] [(0,0),(1,1),(2,1),(3,0),(4,0),(5,0),(6,1),(7,0),(8,0)] zB7 (by kernel_rfl) gB (fun hG g3 => ?_)))))))))
  refine d_w rfl (fun _ => zAd (o := 7) (i := 2) underlying114 rfl sizeOf3 rfl rfl rfl) rfl ?_
  refine zA3 rfl zAc rfl g3 (fun _ hq => (zAi isAgg3 hq rfl rfl (zG1 (i := 0) (o := 7) rfl (by first | omega | rfl | (simp only [zCz, nx2_len, hxl, zL] <;> omega))))) ?_
  refine zA3 rfl zAc rfl g3 (fun _ hq => (zAi isAgg105 hq.tail.tail.tail.tail.tail.drop.drop.drop rfl rfl h1)) ?_
  refine d_w rfl (fun _ => zBl rfl rfl) rfl (d_w rfl (fun _ => zAd (o := 0) (i := 0) underlying146 rfl sizeOf26 rfl rfl rfl) rfl (d_w rfl (fun _ => zAd (o := 2) (i := 2) underlying26 rfl sizeOf24 rfl rfl rfl) rfl ?_))
  refine zA3 rfl zAc rfl g3 (fun _ hq => (zAi isAgg24 hq.tail.tail.tail.tail.tail.drop.drop.drop rfl rfl (show Ats _ _ _ _ [_] from Ats.part hb 2 1))) ?_
  refine d_w rfl (fun _ => zBd underlying24 rfl rfl) rfl (d_w rfl (fun _ => zCk rfl rfl rfl rfl) rfl ?_)
  refine zB5 ?_
  refine zAb (gD _ _ (zAv rfl rfl (fun gc => ?_) (fun gc => ?_)))
  ·
   try simp only [zS] at gc
   refine zAf (fun hH gE => (zAf (fun hO gF => ?_)))
   have hr0 : rem = 0 := by omega
   subst hr0
   have hcur := cur_pad6 (d := d) hcl hpl (by omega) hk6 (by have hdn : d = m.trains.length := (by omega); subst hdn; exact hz)
   simp only [loadsX, List.map_cons, List.map_nil, List.append_nil, List.cons_append, List.nil_append, ← hcur] at hpos
   have hne : ¬ cur = last := fun e => hlast (by rw [hpos, ← e]; exact .head _)
   refine zAa (w_p (zC2 (i := 3) isAgg117 sizeOf117 (by first | omega | rfl | (simp only [zCz, nx2_len, hxl, zL] <;> omega)) g3 rfl rfl rfl) rfl ?_)
   refine w_p (zC2 (i := 2) isAgg117 sizeOf117 (by first | omega | rfl | (simp only [zCz, nx2_len, hxl, zL] <;> omega)) g3 rfl rfl rfl) rfl ?_
   refine w_p (zEs (l := _) (m := _) eqGuardType117 Try_flat117 (by first | omega | rfl | (simp only [zCz, nx2_len, hxl, zL] <;> omega)) (by first | omega | rfl | (simp only [zCz, nx2_len, hxl, zL] <;> omega)) rfl rfl rfl rfl rfl rfl) rfl ?_
   refine zAe (zAb (gF _ _ (zAv rfl rfl (fun gd => ?_) (fun gd => ?_))))
   ·
    try simp only [zS] at gd
    exact absurd (by assumption) hne
   try simp only [zS] at gd
   refine zAr (zAb (gE _ _ (zAf (fun hY gG => (zAa (w_p (zC2 (i := 3) isAgg117 sizeOf117 (by first | omega | rfl | (simp only [zCz, nx2_len, hxl, zL] <;> omega)) g3 rfl rfl rfl) rfl ?_))))))
   refine zDu (i := 2) (l := _) zAc sizeOf117 (by first | omega | rfl | (simp only [zCz, nx2_len, hxl, zL] <;> omega)) rfl rfl rfl rfl rfl g3 rfl (by first | omega | rfl | (simp only [zCz, nx2_len, hxl, zL] <;> omega)) (fun j0 ge => ?_)
   refine zAe (zAb (gG _ _ (zAf (fun j1 gq => (zAa (w_p (zAi isAgg147 ge rfl rfl (aow 4 [_])) rfl (w_p (zC2 (i := 3) isAgg117 sizeOf117 (by first | omega | rfl | (simp only [zCz, nx2_len, hxl, zL] <;> omega)) ge rfl rfl rfl) rfl ?_)))))))
   refine zEa zAc rfl rfl rfl rfl (hy i _ R B M (_ :: _ :: _ :: _ :: _ :: X) _ hpos hJ hM ge) ?_
   rintro _ j3 ⟨B1, M1, g6, g4, (⟨rfl, hJ1⟩ | ⟨rfl, hJ1⟩)⟩
   ·
    replace g4 := (show St _ _ (_ :: _ :: _ :: _ :: _ :: X ++ (B1 ++ (M1 ++ (F)))) from g4)
    refine w_p (zAl rfl rfl) rfl (zAe (zAb (gq _ _ (zA0 (zAh (zA1 (l := [.tmp 8]) (vs := [_]) rfl ⟨⟨rfl, (rfl : _ = Value.bool _)⟩, trivial⟩ ?_))))))
    first
      | exact ⟨cur, cur, B1, M1, hcl, hcl, hk6, hz, g6, g4.tail, .inl ⟨rfl, i + 1, zF3 hpos, zGx hpos, zFw hnd hpos, hJ1⟩⟩
      | exact ⟨cur, cur, B1, M1, hcl, hcl, hk6, hz, g6, g4.tail, .inr ⟨rfl, hJ1⟩⟩
      | exact ⟨cur2, last2, B2, M2, hc2, hl2, zEn hk2 hpl, hz2, g7, g4.tail, .inr ⟨rfl, hJ2⟩⟩
      | (rw [zFq (by omega)] at hpos
         exact ⟨cur, last, B, M, hcl, hll, hk6, hz, hM, g4.tail, .inl ⟨rfl, i, hi, hpos, (by rw [← show Ls.drop i = R from hpos]; exact hlast), hJ⟩⟩)
   replace g4 := (show St _ _ (_ :: _ :: _ :: _ :: _ :: X ++ (B1 ++ (M1 ++ (F)))) from g4)
   refine w_p (zAl rfl rfl) rfl (zAe (zAb (gq _ _ (zA0 (zAh (zA1 (l := [.tmp 8]) (vs := [_]) rfl ⟨⟨rfl, (rfl : _ = Value.bool _)⟩, trivial⟩ ?_))))))
   first
     | exact ⟨cur, cur, B1, M1, hcl, hcl, hk6, hz, g6, g4.tail, .inl ⟨rfl, i + 1, zF3 hpos, zGx hpos, zFw hnd hpos, hJ1⟩⟩
     | exact ⟨cur, cur, B1, M1, hcl, hcl, hk6, hz, g6, g4.tail, .inr ⟨rfl, hJ1⟩⟩
     | exact ⟨cur2, last2, B2, M2, hc2, hl2, zEn hk2 hpl, hz2, g7, g4.tail, .inr ⟨rfl, hJ2⟩⟩
     | (rw [zFq (by omega)] at hpos
        exact ⟨cur, last, B, M, hcl, hll, hk6, hz, hM, g4.tail, .inl ⟨rfl, i, hi, hpos, (by rw [← show Ls.drop i = R from hpos]; exact hlast), hJ⟩⟩)
  try simp only [zS] at gc
  refine zAr (zAb (gC _ _ (zAf (fun j4 gH => ?_))))
  obtain ⟨r, rfl⟩ : ∃ r, rem = r + 1 := ⟨rem - 1, by omega⟩
  have ih2 := ih r rfl
  have hd2 : d < m.trains.length := by omega
  rw [loads_here hgx hd2] at hpos
  have htr := hk.ok.train _ (List.getElem_mem hd2)
  have hmb := mostX_bound (m := m) (sub := sub) (t := m.trains[d]) hgx (by omega)
  obtain ⟨bt, ot, hbt, hxt⟩ := sl_trows hk.i.t hd2
  subst hbt
  refine zAa (w_p (zAd (o := 7) (i := 2) underlying114 rfl sizeOf3 rfl rfl rfl) rfl (w_p (zAi isAgg3 g3 rfl rfl (zG1 (i := 0) (o := 7) rfl (by first | omega | rfl | (simp only [zCz, nx2_len, hxl, zL] <;> omega)))) rfl ?_))
  refine zBg rfl rfl (zAe (zAb (gH _ _ (zAf (fun j5 gI => (zAa (w_p (zAi isAgg105 g3.tail.tail.tail.tail.tail.drop.drop.drop rfl rfl h1) rfl (w_p (zBl rfl rfl) rfl (w_p (zAd (o := 0) (i := 0) underlying146 rfl sizeOf26 rfl rfl rfl) rfl ?_)))))))))
  refine w_p (zAd (o := 2) (i := 2) underlying26 rfl sizeOf24 rfl rfl rfl) rfl (w_p (zAi isAgg24 g3.tail.tail.tail.tail.tail.drop.drop.drop rfl rfl (show Ats _ _ _ _ [_] from Ats.part hb 2 1)) rfl (zA2 rfl rfl (w_p (zA7 underlying24 sizeOf53 rfl rfl rfl rfl (i := d) (by omega) (by omega)) rfl ?_)))
  refine w_p (zAs (vs := [_,_,_,_]) isAgg53 sizeOf53 g3.tail.tail.tail.tail.tail.drop.drop.drop rfl rfl hxt) rfl (zA5 (cs := [_,_,_,_]) zAc zeroValue53 rfl g3 (fun gr j6 gJ => ?_))
  refine zBt 0 (.agg #[.int _ _, .int _ _, .int _ _, .int _ _]) [_,_,_,_] sizeOf53 gJ (fun j7 gt => ?_)
  refine zAe (zAb (gI _ _ (zAf (fun j9 gK => (zAa (zA9 rfl rfl (zAe (zAb (gK _ _ (zAf (fun ja gL => (w_cut [11,40,41,42,43,44,45,46,47,48,49,50,51,52,53,54,55,56,57,58,59,60,61,62,63] [11] (fun vs w => vs = [.int .i64 (mostX m sub x (m.trains[d]'hd2))] ∧ St w0 w ((gr, blk 53 (Train.cells (m.trains[d]'hd2))) :: (b3, blk 114 (iv x)) :: (bn, blk 148 [.func (.func 82) #[] #[.pointer (some ⟨bp, 0, none⟩), .pointer (some ⟨bl, 0, none⟩), .pointer (some ⟨bla, 0, none⟩), .pointer (some ⟨bY, 0, none⟩), .pointer (some ⟨bs, 0, none⟩), .pointer (some ⟨bn, 0, none⟩)]]) :: (bla, blk 117 (iv last)) :: (bl, blk 117 (iv cur)) :: (bY, blk 147 [yv]) :: (X ++ (B ++ (M ++ F))))) (fun jb gf => ?_) ?_))))))))))))
  ·
   refine zAf (fun jc gu => (zAa (w_p (zAi isAgg105 gt.tail.tail.tail.tail.tail.tail.drop.drop.drop rfl rfl h1) rfl (zA2 rfl rfl (zCi zAc call46 rfl rfl rfl rfl (goes_at m _ mb mm hk.app.app.app.cons.cons.cons.cons.cons.cons d hd2 hat gt) (fun jd g8 => ?_))))))
   refine w_p (zAn rfl rfl) rfl (zBk (fun gg => ?_) (fun gg => ?_))
   ·
    try simp only [zS] at gg
    refine w_y rfl rfl rfl (zAi isAgg3 g8.tail.tail.tail.tail.tail.tail.drop.drop.drop rfl rfl h5) rfl ?_
    refine w_y rfl rfl rfl (zAd (o := 1) (i := 1) underlying53 rfl sizeOf3 rfl rfl rfl) rfl ?_
    refine w_y rfl rfl rfl (zAi isAgg3 g8 rfl rfl (aow 0 [_])) rfl ?_
    refine w_y rfl rfl rfl (y_shr (x := _) (y := (m.trains[d]'hd2).shop.toNat) rfl rfl rfl rfl rfl (by first | rfl | omega) (by first | omega | exact zCs (by omega))) rfl ?_
    refine w_y rfl rfl rfl (show Yd _ _ _ _ (.int .i64 ((bit sub (m.trains[d]'hd2).shop.toNat : Nat) : Int)) from (y_and (x := _) (y := 1) rfl rfl rfl rfl rfl rfl (by first | omega | exact zCs (by omega)) (by first | omega | exact zCs (by omega)))) rfl ?_
    refine w_y rfl rfl rfl (zCk rfl rfl rfl rfl) rfl ?_
    refine w_p (zAt (v := .bool _) rfl rfl rfl rfl) rfl (zAe (zAb (gu _ _ (zAv rfl rfl (fun gh => ?_) (fun gh => ?_)))))
    ·
     try simp only [zS] at gh
     refine zCc [] [(0,0),(1,1),(2,0),(3,1),(4,0),(5,0),(6,1),(7,0),(8,1),(9,0),(10,0),(11,1),(12,0),(13,0)] zB7 (by kernel_rfl) g8 (fun je g9 => ?_)
     refine d_w rfl (fun _ => zAd (o := 3) (i := 3) underlying53 rfl sizeOf3 rfl rfl rfl) rfl ?_
     refine zA3 rfl zAc rfl g9 (fun _ hq => (zAi isAgg3 hq rfl rfl (aow 0 [_]))) ?_
     refine d_w rfl (fun _ => zAd (o := 0) (i := 0) underlying53 rfl sizeOf3 rfl rfl rfl) rfl ?_
     refine zA3 rfl zAc rfl g9 (fun _ hq => (zAi isAgg3 hq rfl rfl (aow 0 [_]))) ?_
     refine d_w rfl (fun _ => zAd (o := 0) (i := 0) underlying114 rfl sizeOf112 rfl rfl rfl) rfl (d_w rfl (fun _ => zBn underlying112 sizeOf3 rfl rfl rfl rfl (i := (m.trains[d]'hd2).room.toNat) (by first | rfl | omega) (by omega)) rfl ?_)
     refine zA3 rfl zAc rfl g9 (fun _ hq => (zAi isAgg3 hq rfl rfl (zDr (i := 1) (j := (m.trains[d]'hd2).room.toNat) rfl (by first | omega | rfl | (simp only [zCz, nx2_len, hxl, zL] <;> omega))))) ?_
     refine d_w rfl (fun _ => zAd (o := 1) (i := 1) underlying53 rfl sizeOf3 rfl rfl rfl) rfl ?_
     refine zA3 rfl zAc rfl g9 (fun _ hq => (zAi isAgg3 hq rfl rfl (aow 0 [_]))) ?_
     refine d_w rfl (fun _ => zAd (o := 3) (i := 1) underlying114 rfl sizeOf93 rfl rfl rfl) rfl (d_w rfl (fun _ => zBn underlying93 sizeOf3 rfl rfl rfl rfl (i := (m.trains[d]'hd2).shop.toNat) (by first | rfl | omega) (by omega)) rfl ?_)
     refine zA3 rfl zAc rfl g9 (fun _ hq => (zAi isAgg3 hq rfl rfl (ats_intsO (i := 1) (o := 3) (j := (m.trains[d]'hd2).shop.toNat) rfl (by first | omega | rfl | (simp only [zCz, nx2_len, hxl, zL] <;> omega))))) ?_
     refine d_w rfl (fun _ => y_min3 rfl rfl rfl rfl rfl rfl) rfl (d_w rfl (fun _ => zC3 rfl rfl) rfl ?_)
     refine zB5 ?_
     refine zAb (gf _ _ (mdI ?_))
     first
       | exact ⟨by rw [mostX_yes (by assumption) (by omega)]; rfl, g9⟩
       | exact ⟨by rw [mostX_no (by first | exact .inl (by assumption) | exact .inr (by omega))]; rfl, g9⟩
    try simp only [zS] at gh
    refine zAr (zAb (gf _ _ (mdI ?_)))
    first
      | exact ⟨by rw [mostX_yes (by assumption) (by omega)]; rfl, g8⟩
      | exact ⟨by rw [mostX_no (by first | exact .inl (by assumption) | exact .inr (by omega))]; rfl, g8⟩
   try simp only [zS] at gg
   refine zAg rfl rfl rfl ?_
   refine zAg rfl rfl rfl ?_
   refine zAg rfl rfl rfl ?_
   refine zAg rfl rfl rfl ?_
   refine zAg rfl rfl rfl ?_
   refine zAg rfl rfl rfl ?_
   refine w_p (zBb (v := _) rfl rfl rfl rfl) rfl (zAe (zAb (gu _ _ (zBj rfl rfl ?_))))
   refine zAr (zAb (gf _ _ (mdI ?_)))
   first
     | exact ⟨by rw [mostX_yes (by assumption) (by omega)]; rfl, g8⟩
     | exact ⟨by rw [mostX_no (by first | exact .inl (by assumption) | exact .inr (by omega))]; rfl, g8⟩
  intro vs μ jf hM
  obtain ⟨rfl, hs⟩ := hM
  refine zAb (gL _ _ (zAf (fun jg gM => (zAf (fun jh gN => (zAa (zA2 rfl rfl (w_p (zBe rfl rfl rfl rfl (by omega) (by omega)) rfl (w_p (zBo (v := _) rfl rfl) rfl ?_)))))))))
  refine zAe (zAb (gN _ _ (zAw ?_)))
  refine zB2 [8,12,13,66,67,68,69,70,71,72,73,74,75,76,77,78,79,80,81,82,83,84,85,86,87,88,89,90,91,92,93,94,95,96,97,98,99,100,101,102,103,104,105] [66] (fun k vs w => ∃ (n : Nat) (cur last : List Int) (i : Nat) (B M : List (Nat × Obj)), vs = [.int .i64 n] ∧ (n : Int) ≤ mostX m sub x (m.trains[d]'hd2) + 1 ∧ k = (mostX m sub x (m.trains[d]'hd2)).toNat + 1 - n ∧ cur.length = 6 ∧ last.length = 6 ∧ cur.take d = pre ∧ (∀ j, m.trains.length ≤ j → cur.getD j 0 = 0) ∧ i ≤ Ls.length ∧ Ls.drop i = (((List.range ((mostX m sub x (m.trains[d]'hd2)).toNat + 1)).drop n).flatMap fun n => (segN m sub r x (m.trains[d]'hd2) pre n).map pad6) ++ R ∧ last ∉ Ls.drop i ∧ J i B ∧ Memo m mm M ∧ St w0 w ((gr, blk 53 (Train.cells (m.trains[d]'hd2))) :: (b3, blk 114 (iv x)) :: (bn, blk 148 [.func (.func 82) #[] #[.pointer (some ⟨bp, 0, none⟩), .pointer (some ⟨bl, 0, none⟩), .pointer (some ⟨bla, 0, none⟩), .pointer (some ⟨bY, 0, none⟩), .pointer (some ⟨bs, 0, none⟩), .pointer (some ⟨bn, 0, none⟩)]]) :: (bla, blk 117 (iv last)) :: (bl, blk 117 (iv cur)) :: (bY, blk 147 [yv]) :: (X ++ (B ++ (M ++ F))))) ((mostX m sub x (m.trains[d]'hd2)).toNat + 1) ?_ ?_
  ·
   exact ⟨0, cur, last, i, B, M, rfl, by omega, by omega, hcl, hll, hk6, hz, hi, hpos, hlast, hJ, hM, hs⟩
  intro k vs μ ji hI jj gw
  clear hk6 hz hi hpos hll hlast hJ hs hcl hM
  obtain ⟨n, cur, last, i, B, M, rfl, hn, rfl, hcl, hll, hk6, hz, hi, hpos, hlast, hJ, hM, hs⟩ := hI
  refine zAf (fun jk gO => (zAa (w_p (zCb rfl rfl rfl rfl) rfl (zAe (zAb (gO _ _ (zAf (fun jl gP => (zAv rfl rfl (fun gi => ?_) (fun gi => ?_))))))))))
  ·
   try simp only [zS] at gi
   refine zAr (zAb (gP _ _ (zAf (fun jm gx => (zAw ?_)))))
   refine zAf (fun jo gQ => ?_)
   have hnm : n < (mostX m sub x (m.trains[d]'hd2)).toNat + 1 := by omega
   have hg1 := hgx.get (m.trains[d]'hd2).room.toNat
   have hg2 := hgx.get (3 + (m.trains[d]'hd2).shop.toNat)
   have he1 : (x.set 7 (x.getD 7 0 + 1)).getD (m.trains[d]'hd2).room.toNat 0 = x.getD (m.trains[d]'hd2).room.toNat 0 := nx1_get (by omega)
   have he2 : ((x.set 7 (x.getD 7 0 + 1)).set (m.trains[d]'hd2).room.toNat ((x.set 7 (x.getD 7 0 + 1)).getD (m.trains[d]'hd2).room.toNat 0 - (n : Int))).getD (3 + (m.trains[d]'hd2).shop.toNat) 0 = x.getD (3 + (m.trains[d]'hd2).shop.toNat) 0 := nx2_get (by omega) (by omega)
   refine zAa (zA2 rfl rfl (zBg rfl rfl (zAe (zAb (gQ _ _ (zAf (fun jp gR => (zAa (w_p (zC2 (i := 1) isAgg114 sizeOf114 (by first | omega | rfl | (simp only [zCz, nx2_len, hxl, zL] <;> omega)) hs rfl rfl rfl) rfl ?_)))))))))
   refine zA5 (cs := iv [0,0,0,0,0,0,0,0]) zAc zeroValue114 rfl hs (fun jq jr gS => ?_)
   refine zDu (i := 0) (l := _) zAc sizeOf114 (by first | omega | rfl | (simp only [zCz, nx2_len, hxl, zL] <;> omega)) rfl rfl rfl rfl rfl gS rfl (by first | omega | rfl | (simp only [zCz, nx2_len, hxl, zL] <;> omega)) (fun js gy => ?_)
   refine zAe (zAb (gR _ _ (zAf (fun jt gT => (zAa (w_p (zAd (o := 7) (i := 2) underlying114 rfl sizeOf3 rfl rfl rfl) rfl (w_p (zAi isAgg3 gy rfl rfl (zG1 (i := 0) (o := 7) rfl (by first | omega | rfl | (simp only [zCz, nx2_len, hxl, zL] <;> omega)))) rfl ?_)))))))
   refine w_p (zBe rfl rfl rfl rfl (by omega) (by omega)) rfl (w_p (zAd (o := 7) (i := 2) underlying114 rfl sizeOf3 rfl rfl rfl) rfl (w_storeAtIC (i := 0) (o := 7) zAc sizeOf3 rfl rfl rfl rfl gy rfl (by first | omega | rfl | (simp only [zCz, nx2_len, hxl, zL] <;> omega)) (fun ju gj => ?_)))
   refine zAe (zAb (gT _ _ (zAf (fun jv gU => (zAa (w_p (zAd (o := 0) (i := 0) underlying53 rfl sizeOf3 rfl rfl rfl) rfl (w_p (zAi isAgg3 gj rfl rfl (aow 1 [_])) rfl ?_)))))))
   refine w_p (zAd (o := 0) (i := 0) underlying114 rfl sizeOf112 rfl rfl rfl) rfl (w_p (zBn underlying112 sizeOf3 rfl rfl rfl rfl (i := (m.trains[d]'hd2).room.toNat) (by first | rfl | omega) (by omega)) rfl ?_)
   refine w_p (zAi isAgg3 gj rfl rfl (zDr (i := 0) (j := (m.trains[d]'hd2).room.toNat) rfl (by first | omega | rfl | (simp only [zCz, nx2_len, hxl, zL] <;> omega)))) rfl ?_
   refine zA2 rfl rfl (w_p (zDk rfl rfl rfl rfl (by omega) (by omega)) rfl (w_p (zAd (o := 0) (i := 0) underlying114 rfl sizeOf112 rfl rfl rfl) rfl (w_p (zBn underlying112 sizeOf3 rfl rfl rfl rfl (i := (m.trains[d]'hd2).room.toNat) (by first | rfl | omega) (by omega)) rfl ?_)))
   refine zDe (i := 0) (j := (m.trains[d]'hd2).room.toNat) zAc sizeOf3 rfl rfl rfl rfl gj rfl (by first | omega | rfl | (simp only [zCz, nx2_len, hxl, zL] <;> omega)) (fun jw gk => ?_)
   refine zAe (zAb (gU _ _ (zAf (fun jx gV => (zAa (w_p (zAd (o := 1) (i := 1) underlying53 rfl sizeOf3 rfl rfl rfl) rfl (w_p (zAi isAgg3 gk rfl rfl (aow 1 [_])) rfl ?_)))))))
   refine w_p (zAd (o := 3) (i := 1) underlying114 rfl sizeOf93 rfl rfl rfl) rfl (w_p (zBn underlying93 sizeOf3 rfl rfl rfl rfl (i := (m.trains[d]'hd2).shop.toNat) (by first | rfl | omega) (by omega)) rfl ?_)
   refine w_p (zAi isAgg3 gk rfl rfl (ats_intsO (i := 0) (o := 3) (j := (m.trains[d]'hd2).shop.toNat) rfl (by first | omega | rfl | (simp only [zCz, nx2_len, hxl, zL] <;> omega)))) rfl ?_
   refine zA2 rfl rfl (w_p (zDk rfl rfl rfl rfl (by omega) (by omega)) rfl (w_p (zAd (o := 3) (i := 1) underlying114 rfl sizeOf93 rfl rfl rfl) rfl (w_p (zBn underlying93 sizeOf3 rfl rfl rfl rfl (i := (m.trains[d]'hd2).shop.toNat) (by first | rfl | omega) (by omega)) rfl ?_)))
   refine w_storeAtIO (i := 0) (o := 3) (j := (m.trains[d]'hd2).shop.toNat) zAc sizeOf3 rfl rfl rfl rfl gk rfl (by first | omega | rfl | (simp only [zCz, nx2_len, hxl, zL] <;> omega)) (fun jy gW => ?_)
   refine zAe (zAb (gV _ _ (zAf (fun jz gX => (zAa (zA2 rfl rfl (zA2 rfl rfl (w_p (zBn underlying117 sizeOf3 rfl rfl rfl rfl (i := d) (by first | rfl | omega) (by omega)) rfl ?_))))))))
   refine zDe (i := 5) (j := d) zAc sizeOf3 rfl rfl rfl rfl gW rfl (by first | omega | rfl | (simp only [zCz, nx2_len, hxl, zL] <;> omega)) (fun jA gb => ?_)
   refine zAe (zAb (gX _ _ (zAf (fun jB gm => (zAa (w_p (zAi isAgg105 gb.tail.tail.tail.tail.tail.tail.tail.drop.drop.drop rfl rfl h1) rfl (w_p (zC2 (i := 0) isAgg114 sizeOf114 (by first | omega | rfl | (simp only [zCz, nx2_len, hxl, zL] <;> omega)) gb rfl rfl rfl) rfl ?_)))))))
   refine w_p (zAi isAgg3 gb.tail.tail.tail.tail.tail.tail.tail.drop.drop.drop rfl rfl h5) rfl (zA4 zAc call69 rfl rfl rfl rfl (c69 (X := [_,_,_,_,_,_,_] ++ (X ++ B)) m _ mb mm hk _ (nextX_good hgx (by omega) (by omega) (by omega) (by omega) (by omega) (by omega)).small _ hM (st_in (P := [_,_,_,_,_,_,_]) gb)) ?_)
   rintro _ jC ⟨rfl, M96, gz, ga⟩
   replace ga := (show St _ _ (_ :: _ :: _ :: _ :: _ :: _ :: _ :: X ++ (B ++ (M96 ++ (F)))) from st_out (P := [_,_,_,_,_,_,_]) ga)
   refine w_p (zAn rfl rfl) rfl (zBk (fun gn => ?_) (fun gn => ?_))
   ·
    try simp only [zS] at gn
    refine w_y rfl rfl rfl (zAi isAgg148 ga rfl rfl (aow 3 [_])) rfl ?_
    refine w_y rfl rfl rfl (zC2 (i := 0) isAgg114 sizeOf114 (by first | omega | rfl | (simp only [zCz, nx2_len, hxl, zL] <;> omega)) ga rfl rfl rfl) rfl ?_
    refine zA4 (zAm rfl rfl rfl) call82 rfl rfl rfl rfl (ih2 (d + 1) (pre ++ [(n : Int)]) _ last i _ _ B M96 (_ :: _ :: _ :: X) _ (by omega) (by simp; omega) (by rw [List.length_set]; exact hcl) (set_take6 hk6 (by omega)) (set_zero6 (by omega) hz) (nextX_good hgx (by omega) (by omega) (by omega) (by omega) (by omega) (by omega)) hi (by have hq := seg_more hnm hpos; rw [seg_yes (by assumption)] at hq; exact hq) hll hlast hJ gz (fr7 ga)) ?_
    rintro _ jD ⟨cur2, last2, B2, M2, hc2, hl2, hk2, hz2, g7, g5, (⟨rfl, i2, hi2, hp2, hn2, hJ2⟩ | ⟨rfl, hJ2⟩)⟩
    ·
     replace g5 := bk7 (show St _ _ (_ :: _ :: _ :: _ :: _ :: _ :: _ :: (X ++ (B2 ++ (M2 ++ F)))) from g5)
     refine w_y rfl rfl rfl (zC0 rfl rfl) rfl ?_
     refine w_p (zAt (v := .bool _) rfl rfl rfl rfl) rfl (zAe (zAb (gm _ _ (zBj rfl rfl ?_))))
     refine zAr (zAk (zAb (gx _ _ (zAa (w_p (zBe rfl rfl rfl rfl (by omega) (by omega)) rfl (zA2 rfl rfl (zAe (zAb (gw _ _ (nxI ((mostX m sub x (m.trains[d]'hd2)).toNat + 1 - (n + 1)) (by omega) ?_))))))))))
     first
       | exact ⟨n + 1, cur2, last2, i2, B2, M2, rfl, by omega, rfl, hc2, hl2, zEn hk2 hpl, hz2, hi2, hp2, (by rw [hp2]; exact hn2), hJ2, g7, g5.tail⟩
       | (have hq := seg_more hnm hpos
          rw [seg_no (by assumption)] at hq
          exact ⟨n + 1, _, last, i, B, M2, rfl, by omega, rfl, (by rw [List.length_set]; exact hcl), hll, (by rw [List.take_set_of_le (Nat.le_refl _)]; exact hk6), set_zero6 (by omega) hz, hi, hq, hlast, hJ, g7, g5.tail⟩)
    replace g5 := bk7 (show St _ _ (_ :: _ :: _ :: _ :: _ :: _ :: _ :: (X ++ (B2 ++ (M2 ++ F)))) from g5)
    refine w_y rfl rfl rfl (zC0 rfl rfl) rfl ?_
    refine w_p (zAt (v := .bool _) rfl rfl rfl rfl) rfl (zAe (zAb (gm _ _ (zBz rfl rfl ?_))))
    refine zAf (fun jE gY => (zAa (zA9 rfl rfl (zAe (zAb (gY _ _ (zA0 (zAz (zAh (zAh (zAz (zAh (zA1 (l := [.tmp 8]) (vs := [_]) rfl ⟨⟨rfl, (rfl : _ = Value.bool _)⟩, trivial⟩ ?_)))))))))))))
    first
      | exact ⟨cur, cur, B1, M1, hcl, hcl, hk6, hz, g6, g5.tail.tail.tail, .inl ⟨rfl, i + 1, zF3 hpos, zGx hpos, zFw hnd hpos, hJ1⟩⟩
      | exact ⟨cur, cur, B1, M1, hcl, hcl, hk6, hz, g6, g5.tail.tail.tail, .inr ⟨rfl, hJ1⟩⟩
      | exact ⟨cur2, last2, B2, M2, hc2, hl2, zEn hk2 hpl, hz2, g7, g5.tail.tail.tail, .inr ⟨rfl, hJ2⟩⟩
      | (rw [zFq (by omega)] at hpos
         exact ⟨cur, last, B, M, hcl, hll, hk6, hz, hM, g5.tail.tail.tail, .inl ⟨rfl, i, hi, hpos, (by rw [← show Ls.drop i = R from hpos]; exact hlast), hJ⟩⟩)
   try simp only [zS] at gn
   refine zAg rfl rfl rfl ?_
   refine zAg rfl rfl rfl ?_
   refine zAg rfl rfl rfl ?_
   refine zAg rfl rfl rfl ?_
   refine w_p (zBb (v := _) rfl rfl rfl rfl) rfl (zAe (zAb (gm _ _ (zBj rfl rfl ?_))))
   refine zAr (zAk (zAb (gx _ _ (zAa (w_p (zBe rfl rfl rfl rfl (by omega) (by omega)) rfl (zA2 rfl rfl (zAe (zAb (gw _ _ (nxI ((mostX m sub x (m.trains[d]'hd2)).toNat + 1 - (n + 1)) (by omega) ?_))))))))))
   first
     | exact ⟨n + 1, cur2, last2, i2, B2, M2, rfl, by omega, rfl, hc2, hl2, zEn hk2 hpl, hz2, hi2, hp2, (by rw [hp2]; exact hn2), hJ2, g7, ga.tail⟩
     | (have hq := seg_more hnm hpos
        rw [seg_no (by assumption)] at hq
        exact ⟨n + 1, _, last, i, B, M96, rfl, by omega, rfl, (by rw [List.length_set]; exact hcl), hll, (by rw [List.take_set_of_le (Nat.le_refl _)]; exact hk6), set_zero6 (by omega) hz, hi, hq, hlast, hJ, gz, ga.tail⟩)
  try simp only [zS] at gi
  refine zBr (zAj (zAj (zAy (zAb (gM _ _ (zAf (fun jF gZ => (zAa (zA9 rfl rfl (zAe (zAb (gZ _ _ (zA0 (zA1 (l := [.tmp 8]) (vs := [_]) rfl ⟨⟨rfl, (rfl : _ = Value.bool _)⟩, trivial⟩ ?_))))))))))))))
  first
    | exact ⟨cur, cur, B1, M1, hcl, hcl, hk6, hz, g6, hs.tail.tail, .inl ⟨rfl, i + 1, zF3 hpos, zGx hpos, zFw hnd hpos, hJ1⟩⟩
    | exact ⟨cur, cur, B1, M1, hcl, hcl, hk6, hz, g6, hs.tail.tail, .inr ⟨rfl, hJ1⟩⟩
    | exact ⟨cur2, last2, B2, M2, hc2, hl2, zEn hk2 hpl, hz2, g7, hs.tail.tail, .inr ⟨rfl, hJ2⟩⟩
    | (rw [zFq (by omega)] at hpos
       exact ⟨cur, last, B, M, hcl, hll, hk6, hz, hM, hs.tail.tail, .inl ⟨rfl, i, hi, hpos, (by rw [← show Ls.drop i = R from hpos]; exact hlast), hJ⟩⟩)

end Go.Proofs.Sb
set_option maxRecDepth 20000
namespace Go.Proofs.Sb
open Go.Proofs.Tryz
open Go.Rt Go.Rt.Sh
attribute [local irreducible] WL WC Con Yd At Ats Sl Agree DW

theorem next_all {w0 : World} {F : List (Nat × Obj)} (m : Market) (p : At3) (mb mm : Nat) (hk : MK w0 F m p mb mm)  (sub bp bl bla bY bs bn : Nat) (hsub : sub < 1000) (h1 : Ats w0 F bp 0 [.pointer (some ⟨mb, 0, none⟩)]) (h5 : Ats w0 F bs 0 [.int .i64 (sub : Int)]) (Ls : List (List Int)) (hnd : Ls.Nodup) (J : Nat → List (Nat × Obj) → Prop) (Js : List (Nat × Obj) → Prop) (yv : Value) (hy : ∀ (i : Nat) (x : List Int) (R : List (List Int)) (B M X : List (Nat × Obj)) (w : World), Ls.drop i = x :: R → J i B → Memo m mm M → St w0 w (X ++ (B ++ (M ++ F))) → FCon Tryz.prog yv [ia x] w fun v w' => ∃ B' M', Memo m mm M' ∧ St w0 w' (X ++ (B' ++ (M' ++ F))) ∧ (v = .bool true ∧ J (i + 1) B' ∨ v = .bool false ∧ Js B')) (rem : Nat) : NextC m mb mm sub bp bl bla bY bs bn Ls J Js yv w0 F rem := by
  induction rem with
  | zero => exact c82 m p mb mm hk sub bp bl bla bY bs bn hsub h1 h5 Ls hnd J Js yv hy 0 (fun r h => by omega)
  | succ r ih => exact c82 m p mb mm hk sub bp bl bla bY bs bn hsub h1 h5 Ls hnd J Js yv hy (r + 1) (fun q h => by have : q = r := (by omega); subst this; exact ih)
theorem iter_memo {w0 : World} {F : List (Nat × Obj)} {m : Market} {mm : Nat} {Ls : List (List Int)} {J : Nat → List (Nat × Obj) → Prop} {Js : List (Nat × Obj) → Prop} {J0 : Nat → List (Nat × Obj) → Prop} {Js0 : List (Nat × Obj) → Prop} (hJi : ∀ i Bx, J i Bx ↔ ∃ B M, Bx = B ++ M ∧ Memo m mm M ∧ J0 i B) (hJs : ∀ Bx, Js Bx ↔ ∃ B M, Bx = B ++ M ∧ Memo m mm M ∧ Js0 B) {yv : Value}
    (hy : ∀ i (hi : i < (Ls.map ia).length) B X w, J i B → St w0 w (X ++ (B ++ F)) → FCon Tryz.prog yv [(Ls.map ia)[i]] w fun v w' => ∃ B', St w0 w' (X ++ (B' ++ F)) ∧ (v = .bool true ∧ J (i + 1) B' ∨ v = .bool false ∧ Js B')) :
    ∀ (i : Nat) (x : List Int) (R : List (List Int)) (B M X : List (Nat × Obj)) (w : World), Ls.drop i = x :: R → J0 i B → Memo m mm M → St w0 w (X ++ (B ++ (M ++ F))) → FCon Tryz.prog yv [ia x] w fun v w' => ∃ B' M', Memo m mm M' ∧ St w0 w' (X ++ (B' ++ (M' ++ F))) ∧ (v = .bool true ∧ J0 (i + 1) B' ∨ v = .bool false ∧ Js0 B') := by
  intro i x R B M X w hd hJ hM hs
  have h := hy i (by simpa using zF3 hd) (B ++ M) X w ((hJi _ _).2 ⟨B, M, rfl, hM, hJ⟩) (by rw [List.append_assoc]; exact hs)
  rw [List.getElem_map, drop_get1 hd] at h
  refine h.mono ?_
  rintro v w' ⟨Bx, hs', (⟨rfl, hj⟩ | ⟨rfl, hj⟩)⟩
  · obtain ⟨B', M', rfl, hM', hJ'⟩ := (hJi _ _).1 hj
    exact ⟨B', M', hM', by rw [List.append_assoc] at hs'; exact hs', .inl ⟨rfl, hJ'⟩⟩
  · obtain ⟨B', M', rfl, hM', hJ'⟩ := (hJs _).1 hj
    exact ⟨B', M', hM', by rw [List.append_assoc] at hs'; exact hs', .inr ⟨rfl, hJ'⟩⟩
theorem loads_iter {w0 : World} {F : List (Nat × Obj)} (m : Market) (p : At3) (mb mm : Nat) (hk : MK w0 F m p mb mm)  (sub : Nat) (hsub : sub < 1000) (x : List Int) (hgx : GoodX x 0) (bp bs bx : Nat) (h1 : Ats w0 F bp 0 [.pointer (some ⟨mb, 0, none⟩)]) (h5 : Ats w0 F bs 0 [.int .i64 (sub : Int)]) (h3 : Ats w0 F bx 0 (iv x)) : IterC Tryz.prog 81 [] [.pointer (some ⟨bp, 0, none⟩), .pointer (some ⟨bs, 0, none⟩), .pointer (some ⟨bx, 0, none⟩)] (((loadsX m sub m.trains.length x).map pad6).map ia) w0 F (ClsM (Memo m mm)) := by
  intro J Js hcl yv B X w hyv hy hJ hs
  obtain ⟨J0, Js0, hJi, hJs⟩ := hcl
  obtain ⟨yf, ya, yb, rfl⟩ := hyv
  obtain ⟨B0, M, rfl, hM, hJ0⟩ := (hJi 0 B).1 hJ
  replace hs : St w0 w (X ++ (B0 ++ (M ++ F))) := by rw [List.append_assoc] at hs; exact hs
  have hlt := hk.ok.lt
  have hxl := hgx.len
  show Con Tryz.prog 81 [.func yf ya yb, .pointer (some ⟨bp, 0, none⟩), .pointer (some ⟨bs, 0, none⟩), .pointer (some ⟨bx, 0, none⟩)] w _
  refine zAo (n := 13) func81 rfl rfl (zNl rfl) ?_
  refine zAf (fun K2 g5 => (zAa (zCd (v := .func _ _ _) (cs := [_]) zAc rfl rfl rfl hs (fun b3 w4 g6 => ?_))))
  refine zAe (zAb (g5 _ _ (zAf (fun K7 g7 => (zAa (zA5 (cs := iv [0,0,0,0,0,0]) zAc zeroValue117 rfl g6 (fun b8 w9 g8 => ?_)))))))
  refine zA5 (cs := iv [0,0,0,0,0,0]) zAc zeroValue117 rfl g8 (fun g9 gi ga => ?_)
  refine zAe (zAb (g7 _ _ (zAf (fun gj gb => (zAa (w_p (zBn underlying117 sizeOf3 rfl rfl rfl rfl (i := 0) rfl (by omega)) rfl (zDe (i := 0) (j := 0) zAc sizeOf3 rfl rfl rfl rfl ga rfl (by first | omega | rfl | (simp only [hxl, zL] <;> omega)) (fun gk gc => ?_))))))))
  refine zAe (zAb (gb _ _ (zAf (fun gm gd => (zAa (zA5 (cs := [_]) zAc zeroValue148 rfl gc (fun ge gn gf => ?_)))))))
  refine zAe (zAb (gd _ _ (zAf (fun gq gg => (zAa (w_p (zCl (fv := []) (cv := [_,_,_,_,_,_]) rfl rfl rfl rfl) rfl (zBt 0 (.func _ _ _) [_] sizeOf148 gf (fun gr g3 => ?_))))))))
  refine zAe (zAb (gg _ _ (zAa (w_p (zAi isAgg148 g3 rfl rfl (aow 0 [_])) rfl (w_p (zAs (vs := iv _) isAgg114 (fun w => by rw [show (iv _).length = 8 from (by first | omega | rfl | (simp only [hxl, zL] <;> omega))]; exact sizeOf114 w) g3.tail.tail.tail.tail.drop.drop.drop rfl rfl h3) rfl ?_)))))
  refine zA4 zAc call82 rfl rfl rfl rfl (next_all m p mb mm hk sub bp b8 g9 b3 bs ge hsub h1 h5 ((loadsX m sub m.trains.length x).map pad6) allLoads_nodup J0 Js0 (.func yf ya yb) (iter_memo hJi hJs hy) m.trains.length 0 [] (List.replicate 6 0) [-1,0,0,0,0,0] 0 [] x B0 M X _ (by omega) rfl rfl rfl (fun j _ => by match j with | 0 => rfl | 1 => rfl | 2 => rfl | 3 => rfl | 4 => rfl | 5 => rfl | _ + 6 => rfl) hgx (by omega) (by rw [List.append_nil]; rfl) rfl (by rw [List.drop_zero]; exact start_last) hJ0 hM g3) ?_
  rintro _ gt ⟨cur2, last2, B2, M2, _,_,_,_, g4, gh, hB2⟩
  refine zAe (q_end (l := []) (vs := []) rfl trivial ?_)
  refine ⟨B2 ++ M2, by rw [List.append_assoc]; exact gh.tail.tail.tail.tail, ?_⟩
  rcases hB2 with ⟨_, i', hi', hd', _, hJ'⟩ | ⟨_, hJ'⟩
  · left; rw [List.length_map, ← drop_done hi' hd']; exact (hJi _ _).2 ⟨B2, M2, rfl, g4, hJ'⟩
  · exact .inr ((hJs _).2 ⟨B2, M2, rfl, g4, hJ'⟩)

theorem c48 {w0 w : World} {F : List (Nat × Obj)} (mb : Nat) (x : List Int) (hx8 : x.length = 8) (z : Int) (hs : St w0 w F) :
  Con Tryz.prog 48 [.pointer (some ⟨mb, 0, none⟩), ia x, .int .i64 z] w fun v w' => ∃ bp bx bs, v = .func (.func 81) #[] #[.pointer (some ⟨bp, 0, none⟩), .pointer (some ⟨bs, 0, none⟩), .pointer (some ⟨bx, 0, none⟩)] ∧ St w0 w' ((bs, blk 3 [.int .i64 z]) :: (bx, blk 114 (iv x)) :: (bp, blk 105 [.pointer (some ⟨mb, 0, none⟩)]) :: F) := by
  refine zAo (n := 8) func48 rfl rfl (zNl rfl) ?_
  refine zAf (fun K2 g3 => (zAa (zCd (v := .pointer _) (cs := [_]) zAc rfl rfl rfl hs (fun b3 w4 g4 => ?_))))
  refine zHo (l := _) zAc rfl rfl rfl g4 (fun b6 w7 g5 => ?_)
  refine zCd (v := .int _ _) (cs := [_]) zAc rfl rfl rfl g5 (fun b9 g8 g6 => ?_)
  refine zA9 rfl rfl (zAe (zAb (g3 _ _ (zAf (fun g9 g7 => (zAa (w_p (zCl (fv := []) (cv := [_,_,_]) rfl rfl rfl rfl) rfl (w_p (zB9 (v := .func _ _ _) rfl rfl) rfl ?_))))))))
  refine zAe (zAb (g7 _ _ (zA0 (zA1 (l := [.tmp 6]) (vs := [_]) rfl ⟨⟨rfl, show _ = (.func _ _ _ : Value) from rfl⟩, trivial⟩ ?_))))
  exact ⟨_, _,_, rfl, g6⟩

end Go.Proofs.Sb
set_option maxRecDepth 20000
namespace Go.Proofs.Sb
open Go.Proofs.Tryz
open Go.Rt Go.Rt.Sh
attribute [local irreducible] WL WC Con Yd At Ats Sl Agree DW

theorem giveP_1 {m : Market} (h : (check m).2.2 ≠ 0) : giveP m = ([], (check m).2.2) := by unfold giveP; rw [if_pos h]
theorem giveP_2 {m : Market} (h : (check m).2.2 = 0) : giveP m = (giveL m, 0) := by unfold giveP; rw [if_neg (by simp [h])]
theorem give_perm {s x p c k u v : Nat × Obj} (B M F : List (Nat × Obj)) : (s :: x :: p :: c :: k :: (B ++ (M ++ (u :: v :: F)))).Perm (([c, k] ++ M) ++ (s :: x :: p :: (B ++ (u :: v :: F)))) := by
  have h1 : (s :: x :: p :: c :: k :: (B ++ (M ++ (u :: v :: F)))).Perm (c :: k :: s :: x :: p :: (B ++ (M ++ (u :: v :: F)))) := zB3 [s, x, p] [c, k] (B ++ (M ++ (u :: v :: F)))
  refine h1.trans ?_
  show (c :: k :: s :: x :: p :: (B ++ (M ++ (u :: v :: F)))).Perm (c :: k :: (M ++ (s :: x :: p :: (B ++ (u :: v :: F)))))
  refine List.Perm.cons _ (List.Perm.cons _ ?_)
  have h2 := zB3 (s :: x :: p :: B) M (u :: v :: F)
  simpa using h2
theorem give_fin {w0 w : World} {a b c x y z u v : Nat × Obj} {M B F : List (Nat × Obj)} (h : St w0 w (a :: b :: c :: (M ++ (x :: y :: z :: (B ++ (u :: v :: F)))))) : St w0 w ([c] ++ F) := by
  have e : (a :: b :: c :: (M ++ (x :: y :: z :: (B ++ (u :: v :: F))))) = [a, b] ++ ([c] ++ ((M ++ (x :: y :: z :: (B ++ [u, v]))) ++ F)) := by simp
  rw [e] at h
  have h1 := (h.drop).perm (zB3 [c] (M ++ (x :: y :: z :: (B ++ [u, v]))) F)
  exact h1.drop
theorem c11 {w0 w : World} {F : List (Nat × Obj)} (m : Market) (p : At3) (hm : MIn w0 F m p)  (hs : St w0 w F) :
  Con Tryz.prog 11 [.agg (m.cells p).toArray] w fun v w' => ∃ B a c, v = .tuple #[.slice a (giveP m).1.length c, .int .i64 (giveP m).2] ∧ Sl w0 B a 1 ((giveP m).1.map fun x => [Value.int .i64 x]) ∧ St w0 w' (B ++ F) := by
  refine con_of_wcM (n := 50) func11 rfl rfl (zNl rfl) ?_
  have hlt0 := hm.lt
  refine zAf (fun K2 gg => (zAa (zCd (v := .agg #[.slice _ _ _, .slice _ _ _, .slice _ _ _]) (cs := [_,_,_]) zAc rfl rfl rfl hs (fun b3 w4 gc => ?_))))
  refine zA9 rfl rfl (zA9 rfl rfl (zAe (zAb (gg _ _ (zAf (fun K7 gd => (zAa (w_p (zAs (vs := [_,_,_]) isAgg26 sizeOf26 gc rfl rfl (aow 0 [_,_,_])) rfl ?_))))))))
  refine zA4 zAc call45 rfl rfl rfl rfl (c45 m p hm.cons 0 (by omega) (by omega) none 0 [] (by simp) (Sl.nil _ _) gc) ?_
  rintro _ w9 (⟨hee, rfl, g4⟩ | ⟨hee, mb, mm, M, rfl, hM, g4⟩)
  ·
   refine w_p (zA6 rfl rfl) rfl (w_p (zBy rfl rfl rfl) rfl (w_p (zAq rfl rfl rfl) rfl (w_p (zBu rfl rfl) rfl (zBg rfl rfl (zAe (zAb (gd _ _ (zAf (fun gP gQ => (zAf (fun gR gh => (zAa (zA2 rfl rfl ?_)))))))))))))
   refine w_p (zCj rfl rfl rfl rfl) rfl (zAe (zAb (gh _ _ (zAv rfl rfl (fun g6 => ?_) (fun g6 => ?_)))))
   ·
    try simp only [zS] at g6
    refine zAf (fun gS gi => (zAa (zA2 rfl rfl (zA9 rfl rfl (zBg rfl rfl (zAe (zAb (gi _ _ (zA0 (zAh (q_retM0 (l := [.tmp 2, .tmp 3]) (vs := [_,_]) rfl ⟨⟨rfl, show _ = (.slice _ _ _ : Value) from rfl⟩, ⟨rfl, (rfl : _ = Value.int _ _)⟩, trivial⟩ ?_)))))))))))
    exact ⟨[], none, 0, by rw [giveP_1 (by rw [← zEg (n := 0)]; exact hee), ← zEg (n := 0)]; rfl, by rw [giveP_1 (by rw [← zEg (n := 0)]; exact hee)]; exact Sl.nil _ _, g4.tail⟩
   exfalso
   try simp only [zS] at g6
   first | exact hee g6 | exact g6 hee
  replace g4 := (show St _ _ (M ++ (_ :: _ :: F)) from g4)
  have hk : MK w0 ((mb, blk 146 [.slice p.ar m.rooms.length p.cr, .slice p.az m.shops.length p.cs, .slice p.at_ m.trains.length p.ct, .map (some mm)]) :: (b3, blk 26 (m.cells p)) :: F) m p mb mm := ⟨hm.cons.cons, zBm (i := 0) (vs := [_,_,_,_]) rfl rfl, check_ok (zC1 hee)⟩
  have hlr := hk.ok.lr
  have hls := hk.ok.ls
  have hlt := hk.ok.lt
  have hbx : Ats w0 ((b3, blk 26 (m.cells p)) :: F) b3 0 (m.cells p) := zBm (i := 0) rfl rfl
  refine w_p (zA6 rfl rfl) rfl (w_p (zBy rfl rfl rfl) rfl (w_p (zAq rfl rfl rfl) rfl (w_p (zBu rfl rfl) rfl (zBg rfl rfl (zAe (zAb (gd _ _ (zAf (fun gT gj => (zAf (fun gU gk => (zAa (zA2 rfl rfl ?_)))))))))))))
  refine w_p (zCj rfl rfl rfl rfl) rfl (zAe (zAb (gk _ _ (zBj rfl rfl ?_))))
  refine zAr (zAb (gj _ _ (zAf (fun gV gm => ?_))))
  have hsa := shl_all hls
  refine zAa (w_p (zAd (o := 1) (i := 1) underlying26 rfl sizeOf23 rfl rfl rfl) rfl (w_p (zAi isAgg23 g4.drop.tail rfl rfl (show Ats _ _ _ _ [_] from Ats.part hbx 1 1)) rfl (w_p (zBd underlying23 rfl rfl) rfl (w_p (y_shl (x := 1) (y := _) rfl rfl rfl rfl rfl rfl (by first | omega | exact zCs (by omega)) (by first | omega | exact zCs (by omega))) rfl ?_))))
  refine w_p (zCt (z' := ((1 <<< m.shops.length - 1 : Nat) : Int)) (by omega) (zDk rfl rfl rfl rfl (by omega) (by omega))) rfl (zBg rfl rfl (zAe (zAb (gm _ _ (zAf (fun gW gn => (zAf (fun gX gq => (zAa (w_p (zBi rfl rfl) rfl ?_))))))))))
  refine zA4 zAc call47 rfl rfl rfl rfl (c47 (X := []) m p mb mm hk  hM g4) ?_
  rintro _ gY ⟨g5, al_B32, cl_B32, M31, rfl, hsl_B32, gr, g8⟩
  replace g8 := (show St _ _ (g5 ++ (M31 ++ (_ :: _ :: F))) from g8)
  refine w_p (zBd underlying30 rfl rfl) rfl (w_p (zBo (v := _) rfl rfl) rfl (zAe (zAb (gq _ _ (zAw ?_)))))
  refine zB2 [6,8,27,28,29,30,31,32,33,34,35] [6,27] (fun k vs w => ∃ i s : Nat, vs = [.int .i64 s, .int .i64 i] ∧ s < 1000 ∧ i ≤ (withoutL m).length ∧ k = (withoutL m).length - i ∧ giveSub (1 <<< m.shops.length - 1) (withoutL m) = giveSub s ((withoutL m).drop i) ∧ St w0 w (g5 ++ (M31 ++ ((mb, blk 146 [.slice p.ar m.rooms.length p.cr, .slice p.az m.shops.length p.cs, .slice p.at_ m.trains.length p.ct, .map (some mm)]) :: (b3, blk 26 (m.cells p)) :: F)))) ((withoutL m).length) ?_ ?_
  ·
   exact ⟨0, _, rfl, by omega, by omega, by omega, rfl, g8⟩
  intro k vs μ gZ hI hG gt
  obtain ⟨i, s, rfl, hs1k, hia, rfl, hgs, hs⟩ := hI
  refine zAf (fun hH gu => (zAa (w_p (zCb rfl rfl rfl rfl) rfl (zAe (zAb (gu _ _ (zAf (fun hO gw => (zAv rfl rfl (fun g9 => ?_) (fun g9 => ?_))))))))))
  ·
   try simp only [zS] at g9
   refine zAr (zAb (gw _ _ (zAf (fun hY gx => (zAw ?_)))))
   refine zAf (fun j0 gy => ?_)
   have hwl : (withoutL m).length ≤ m.shops.length := zE7 m _
   have hi2 : i < (withoutL m).length := by omega
   obtain ⟨bl, ol, hbl, hxl⟩ := zCy hsl_B32.top hi2
   subst hbl
   have hin := zHn m _ _ (List.getElem_mem hi2)
   have hsm := shl_small (x := ((withoutL m)[i]'hi2).toNat) (by omega)
   refine zAa (w_p (zA7 underlying30 sizeOf3 rfl rfl rfl rfl (i := _) rfl (by omega)) rfl (w_p (zAi isAgg3 hs rfl rfl hxl) rfl (zBg rfl rfl (zAe (zAb (gy _ _ (zAa (zA2 rfl rfl (zA2 rfl rfl (w_p (y_shl (x := 1) (y := ((withoutL m)[i]'hi2).toNat) rfl rfl rfl rfl rfl (by first | rfl | omega) (by first | omega | exact zCs (by omega)) (by first | omega | exact zCs (by omega))) rfl ?_))))))))))
   refine w_p (y_andNot (x := s) (y := 1 <<< ((withoutL m)[i]'hi2).toNat) rfl rfl rfl rfl (by first | rfl | omega) (by first | rfl | omega) (by first | omega | exact zCs (by omega))) rfl ?_
   refine zBg rfl rfl (zAe (zAk (zAb (gx _ _ (zAa (w_p (zBe rfl rfl rfl rfl (by omega) (by omega)) rfl (zA2 rfl rfl (zAe (zAb (gt _ _ (nxI ((withoutL m).length - (i + 1)) (by omega) ?_)))))))))))
   have hle := bitDiff_le s (1 <<< (withoutL m)[i].toNat) (by omega)
   exact ⟨i + 1, _, rfl, by omega, by omega, rfl, hgs.trans (giveSub_step hi2), hs⟩
  try simp only [zS] at g9
  refine zBr (zAj (zAj (zAy (zAb (gn _ _ (zAf (fun j1 gz => ?_)))))))
  have hsub : giveSub (1 <<< m.shops.length - 1) (withoutL m) = s := hgs.trans (giveSub_end (by omega))
  have hsub2 : giveSub (1 <<< m.shops.length - 1) (withoutL m) < 1000 := by omega
  subst hsub
  refine zAa (w_p (zAd (o := 2) (i := 2) underlying26 rfl sizeOf24 rfl rfl rfl) rfl (w_p (zAi isAgg24 hs.drop.drop.tail rfl rfl (show Ats _ _ _ _ [_] from Ats.part hbx 2 1)) rfl (w_p (zBd underlying24 rfl rfl) rfl (zG4 (k := m.trains.length) zAc underlying30 zDf rfl rfl (by omega) rfl rfl rfl rfl rfl hs (fun g3 j3 gA => ?_)))))
  refine zA5 (cs := [_]) zAc zeroValue30 rfl gA (fun g7 j4 gB => ?_)
  refine zBt 0 (.slice _ _ _) [_] sizeOf30 gB (fun j5 gC => ?_)
  refine zAe (zAb (gz _ _ (zAf (fun j6 ge => (zAf (fun j7 gD => (zAa (w_p (zBi rfl rfl) rfl (w_p (zBi rfl rfl) rfl (zCi zAc call49 rfl rfl rfl rfl (c49 m p mb mm hk.app.app.cons.cons _ gC) (fun j9 gE => ?_)))))))))))
  refine zA2 rfl rfl (zA4 zAc call48 rfl rfl rfl rfl (c48 _ _ (allX_len _ _) _ gE) ?_)
  rintro _ ja ⟨bp, bx, bs, rfl, gF⟩
  refine zAe (zAb (gD _ _ (zAw ?_)))
  refine w_rangeC ([_,_] ++ M31) (fun i Bx => ∃ B M, Bx = B ++ M ∧ Memo m mm M ∧ i = 0 ∧ B = [(g7, blk 30 [.slice (some ⟨g3,0, none⟩) m.trains.length m.trains.length]), (g3, blk 3 (iv (List.replicate m.trains.length 0)))]) (fun c Bx => ∃ B M, Bx = B ++ M ∧ Memo m mm M ∧ c = .exit 2 ∧ B = [(g7, blk 30 [.slice (some ⟨g3,0, none⟩) m.trains.length m.trains.length]), (g3, blk 3 (iv (giveL m)))]) rfl rfl rfl call81 (loads_iter m p mb mm hk.app.cons.cons.cons _ hsub2 _ (allX_good hk.ok false) bp bs bx (aow 2 [_]) (aow 0 [_]) (zBm (i := 1) (vs := iv _) rfl (by rw [List.drop_zero, List.take_length]))) (clsM_range (fun i B => i = 0 ∧ B = [(g7, blk 30 [.slice (some ⟨g3,0, none⟩) m.trains.length m.trains.length]), (g3, blk 3 (iv (List.replicate m.trains.length 0)))]) (fun c B => c = .exit 2 ∧ B = [(g7, blk 30 [.slice (some ⟨g3,0, none⟩) m.trains.length m.trains.length]), (g3, blk 3 (iv (giveL m)))]) (fun i Bx => Iff.rfl) (fun c Bx => Iff.rfl)) gF (give_perm _ _ _) ⟨_, M31, rfl, gr, rfl, rfl⟩ ?_ ?_ ?_
  ·
   intro lp i hi Bx Xr Xr2 jb hJ hs K gG
   obtain ⟨BB, M3, rfl, ga, rfl, rfl⟩ := hJ
   rw [List.getElem_map]
   have hi2 : 0 < (allLoads m).length := by simpa [allLoads] using hi
   have hl6 := zHt hk.ok _ (List.getElem_mem hi2)
   have hcp := giveL_copy hk.ok hi2
   change WC _ _ _ _ (A _ (upd _ _ (ia (allLoads m)[0])) _) _
   obtain ⟨l0, hl0⟩ : ∃ l0, l0 = (allLoads m)[0] := ⟨_, rfl⟩
   rw [← hl0] at hl6 hcp ⊢
   replace hs := (show St _ _ (_ :: _ :: (M3 ++ (Xr ++ (_ :: _ :: _ :: (g5 ++ (_ :: _ :: F)))))) from hs)
   refine zAa (zA5 (cs := iv [0,0,0,0,0,0]) zAc zeroValue117 rfl hs (fun jc jd gH => ?_))
   refine zDu (i := 0) (l := _) zAc sizeOf117 (by first | omega | rfl | (simp only [allX_len, zL] <;> omega)) rfl rfl rfl rfl rfl gH rfl (by first | omega | rfl | (simp only [allX_len, zL] <;> omega)) (fun je gI => ?_)
   refine zAe (zAb (gG _ _ (_ :: _ :: _ :: M3) gI (fun jf gb => ?_)))
   replace gb := (show St _ _ (_ :: _ :: _ :: M3 ++ (Xr2 ++ (_ :: _ :: _ :: g5 ++ (_ :: _ :: F)))) from gb)
   refine zAw ?_
   refine zAf (fun jg gJ => (zCc [2] [(0,1),(1,0),(2,3)] zB7 (by kernel_rfl) gb (fun jh gf => ?_)))
   refine zA3 rfl zAc rfl gf (fun _ hq => (zAi isAgg30 hq rfl rfl (aow 1 [_]))) ?_
   refine d_w rfl (fun _ => y_sliceA underlying117 sizeOf3 rfl rfl) rfl ?_
   refine zCa rfl ?_
   refine w_copyI (i := 2) zAc underlying30 sizeOf3 rfl rfl rfl rfl gf rfl (zFb (i := 0) rfl) (by first | omega | rfl | (simp only [allX_len, zL] <;> omega)) (by first | omega | rfl | (simp only [allX_len, zL] <;> omega)) (fun ji gK => ?_)
   refine zAe (qn ?_)
   refine zB5 ?_
   refine zAb (gJ _ _ (zBr (q_blk_other rfl ?_)))
   refine rd_exit (_ :: _ :: M3) gK.tail ?_
   exact ⟨[_,_], M3, rfl, ga, rfl, by rw [hcp]⟩
  ·
   intro bd Bx jj hJ hs
   obtain ⟨BB, M3, rfl, ga, hi0, rfl⟩ := hJ
   replace hs := (show St _ _ (_ :: _ :: _ :: (M3 ++ (_ :: _ :: _ :: (g5 ++ (_ :: _ :: F))))) from hs)
   have hgl : giveL m = List.replicate m.trains.length 0 := giveL_nil (by simpa [allLoads] using hi0)
   rw [← hgl] at hs
   refine zAk (zAb (ge _ _ (zAf (fun jk gL => (zAa (w_p (zAi isAgg30 hs rfl rfl (aow 1 [_])) rfl (w_p (zBh rfl rfl) rfl (zA9 rfl rfl (zAe ?_)))))))))
   refine zAb (gL _ _ (zA0 (q_retM (i := 0) (l := [.tmp 2, .tmp 3]) (vs := [_,_]) hs rfl rfl (fun jl gM => ⟨⟨⟨rfl, show _ = (.slice _ _ _ : Value) from rfl⟩, ⟨rfl, (rfl : _ = Value.int _ _)⟩, trivial⟩, ?_⟩))))
   exact ⟨[_], _,_, by rw [giveP_2 (zC1 hee), giveL_len hk.ok]; rfl, by rw [giveP_2 (zC1 hee)]; exact zFb (i := 0) rfl, give_fin gM⟩
  intro bd c Bx jm hJ hs
  obtain ⟨BB, M3, rfl, ga, rfl, rfl⟩ := hJ
  replace hs := (show St _ _ (_ :: _ :: _ :: (M3 ++ (_ :: _ :: _ :: (g5 ++ (_ :: _ :: F))))) from hs)
  refine zBr (zAy (zAb (ge _ _ (zAf (fun jo gN => (zAa (w_p (zAi isAgg30 hs rfl rfl (aow 1 [_])) rfl (w_p (zBh rfl rfl) rfl (zA9 rfl rfl (zAe ?_))))))))))
  refine zAb (gN _ _ (zA0 (q_retM (i := 0) (l := [.tmp 2, .tmp 3]) (vs := [_,_]) hs rfl rfl (fun jp gO => ⟨⟨⟨rfl, show _ = (.slice _ _ _ : Value) from rfl⟩, ⟨rfl, (rfl : _ = Value.int _ _)⟩, trivial⟩, ?_⟩))))
  exact ⟨[_], _,_, by rw [giveP_2 (zC1 hee), giveL_len hk.ok]; rfl, by rw [giveP_2 (zC1 hee)]; exact zFb (i := 0) rfl, give_fin gO⟩

end Go.Proofs.Sb
