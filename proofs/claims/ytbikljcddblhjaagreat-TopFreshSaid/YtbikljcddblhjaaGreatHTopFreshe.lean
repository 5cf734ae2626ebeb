/- Own texts of this claim, joined. No conditions. -/
import Derived.Test.YtbikljcddblhjaaGreatHTopFresha
import Derived.Test.YtbikljcddblhjaaGreatHTopFreshb
import Derived.Test.YtbikljcddblhjaaGreatHTopFreshc
import Derived.Test.YtbikljcddblhjaaGreatHTopFreshd
set_option linter.unusedVariables false
set_option linter.unusedSimpArgs false
set_option maxRecDepth 20000
namespace Go.Proofs.Ut
open Go.Proofs.Tryz
open Go.Rt Go.Rt.Tu
open Go.Rt.Ha (firstE zCf zBu zB1 failE felt spanL upto zC1 listL fewest fewTo bit Bunch before fewStep zCm zDd zCc zCx zC6 zCw zB8)
attribute [local irreducible] WL WC Con Yd At Ats Sl Agree DW

def QIs (w0 : World) (F : List (Nat × Obj)) (c : Cargo) (mm hold : Nat) (fv : Value) (q : List Int → Bool) (J : Nat → List (Nat × Obj) → Prop) : Prop :=
  ∀ (i : Nat) (hi : i < (truths c 0 hold).length) (B M X : List (Nat × Obj)) (w : World), J i B → Memo c mm M → St w0 w (X ++ (B ++ (M ++ F))) → FCon Tryz.prog fv [ia (truths c 0 hold)[i], ia (times c (truths c 0 hold)[i])] w fun v w' => v = .bool (q (truths c 0 hold)[i]) ∧ ∃ B' M', J (i + 1) B' ∧ Memo c mm M' ∧ St w0 w' (X ++ (B' ++ (M' ++ F)))
theorem ask_perm (h p a b q r : Nat × Obj) (X B M F : List (Nat × Obj)) : (h :: p :: a :: b :: q :: r :: (X ++ (B ++ (M ++ F)))).Perm ((([a, b] ++ B) ++ M) ++ (h :: p :: q :: r :: (X ++ F))) := by
  have h1 : (h :: p :: a :: b :: q :: r :: (X ++ (B ++ (M ++ F)))).Perm ([a, b] ++ (h :: p :: q :: r :: (X ++ (B ++ (M ++ F))))) := zAa [h, p] [a, b] _
  have h2 : (h :: p :: q :: r :: (X ++ (B ++ (M ++ F)))).Perm (B ++ (M ++ (h :: p :: q :: r :: (X ++ F)))) :=
    (zAa ([h, p, q, r] ++ X) B (M ++ F)).trans (List.Perm.append_left B (zAa ([h, p, q, r] ++ X) M F))
  have h3 := h1.trans (List.Perm.append_left [a, b] h2)
  simpa only [List.append_assoc, List.cons_append, List.nil_append] using h3
theorem ask_back {w0 w : World} {h p q r : Nat × Obj} {X B M F : List (Nat × Obj)} (hs : St w0 w (B ++ (M ++ (h :: p :: q :: r :: (X ++ F))))) : St w0 w (X ++ (B ++ (M ++ F))) := by
  have h1 := (hs.perm ((List.Perm.append_left B (zAa M [h, p, q, r] (X ++ F))).trans (zAa B [h, p, q, r] (M ++ (X ++ F))))).tail.tail.tail.tail
  exact St.perm (L := B ++ (M ++ (X ++ F))) h1 ((List.Perm.append_left B (zAa M X F)).trans (zAa B X (M ++ F)))
theorem QIs.mid {w0 w : World} {c : Cargo} {mm hold : Nat} {fv : Value} {q : List Int → Bool} {J : Nat → List (Nat × Obj) → Prop} {P B M Y Q F : List (Nat × Obj)} (h : QIs w0 F c mm hold fv q J) {i : Nat} (hi : i < (truths c 0 hold).length) (hJ : J i B) (hM : Memo c mm M) (hs : St w0 w (P ++ (B ++ (M ++ (Y ++ (Q ++ F)))))) :
    FCon Tryz.prog fv [ia (truths c 0 hold)[i], ia (times c (truths c 0 hold)[i])] w fun v w' => v = .bool (q (truths c 0 hold)[i]) ∧ ∃ B' M', J (i + 1) B' ∧ Memo c mm M' ∧ St w0 w' (P ++ (B' ++ (M' ++ (Y ++ (Q ++ F))))) := by
  have e : ∀ B M : List (Nat × Obj), (P ++ (B ++ (M ++ (Y ++ (Q ++ F))))).Perm ((P ++ (Y ++ Q)) ++ (B ++ (M ++ F))) := by
    intro B M
    have h1 : (B ++ (M ++ ((Y ++ Q) ++ F))).Perm ((Y ++ Q) ++ (B ++ (M ++ F))) := (List.Perm.append_left B (zAa M (Y ++ Q) F)).trans (zAa B (Y ++ Q) (M ++ F))
    simpa only [List.append_assoc] using List.Perm.append_left P h1
  exact (h i hi B M _ w hJ hM (hs.perm (e B M))).mono fun _ _ ⟨h1, B', M', h2, h3, h4⟩ => ⟨h1, B', M', h2, h3, h4.perm (e B' M').symm⟩
theorem times_mid {w0 w : World} {P B M Y F : List (Nat × Obj)} (c : Cargo) (p : AtT) (but cb mm : Nat) (hk : CK w0 F c p but cb mm) (s : List Int) (hso : SOk s) (hM : Memo c mm M) (hs : St w0 w (P ++ (B ++ (M ++ (Y ++ F))))) :
    Con Tryz.prog 59 [.pointer (some ⟨cb, 0, none⟩), ia s] w fun v w' => ∃ M', v = ia (times c s) ∧ Memo c mm M' ∧ St w0 w' (P ++ (B ++ (M' ++ (Y ++ F)))) := by
  have h := zFr (X := P ++ B) (M := M) (F := Y ++ F) c p but cb mm hk.app s hso hM (by simpa only [List.append_assoc] using hs)
  exact h.mono fun _ _ ⟨M', h1, h2, h3⟩ => ⟨M', h1, h2, by simpa only [List.append_assoc] using h3⟩
theorem ask_is {c : Cargo} {hold : Nat} {q : List Int → Bool} {z : Int} (h : z = askOf ((truths c 0 hold).filter q).length (truths c 0 hold).length) : z = Tu.ask c hold q := h
theorem cnt_yes {α : Type} {q : α → Bool} {l : List α} {i : Nat} (h : i < l.length) (h2 : q l[i] = true) : ((((l.take (i + 1)).filter q).length : Nat) : Int) = ((((l.take i).filter q).length : Nat) : Int) + 1 := by rw [cnt_step h, h2]; rfl
theorem cnt_no {α : Type} {q : α → Bool} {l : List α} {i : Nat} (h : i < l.length) (h2 : q l[i] = false) : ((((l.take (i + 1)).filter q).length : Nat) : Int) = ((((l.take i).filter q).length : Nat) : Int) := by rw [cnt_step h, h2]; rfl
theorem ask_cells {b8 b7 : Nat} {x x' y y' : Int} {B0 : List (Nat × Obj)} (h1 : x = x') (h2 : y = y') : ((b8, blk 3 [.int .i64 x]) :: (b7, blk 3 [.int .i64 y]) :: B0 : List (Nat × Obj)) = (b8, blk 3 [.int .i64 x']) :: (b7, blk 3 [.int .i64 y']) :: B0 := by subst h1 h2; rfl
theorem c34 {w0 w : World} {X B M F : List (Nat × Obj)} (c : Cargo) (p : AtT) (cb mm : Nat) (hk : CK w0 F c p 0 cb mm) (hco : c.Ok) (hold : Nat) (hh : hold < c.holds.length) (fk : FuncId) (f1 cp : Array Value) (q : List Int → Bool) (J : Nat → List (Nat × Obj) → Prop) (hq : QIs w0 F c mm hold (.func (.func fk) f1 cp) q J) (hJ0 : J 0 B) (hM : Memo c mm M) (hs : St w0 w (X ++ (B ++ (M ++ F)))) :
  Con Tryz.prog 34 [.pointer (some ⟨cb, 0, none⟩), .int .i64 (hold : Int), .agg #[.func (.func fk) f1 cp]] w fun v w' => v = .int .i64 (Tu.ask c hold q) ∧ ∃ B' M', J (truths c 0 hold).length B' ∧ Memo c mm M' ∧ St w0 w' (X ++ (B' ++ (M' ++ F))) := by
  refine zD7 (n := 31) func34 rfl rfl (zNl rfl) ?_
  have htl := truths_len hco 0 hh
  refine zAg (fun K2 gf => (zAc (zCj (v := .pointer _) (cs := [_]) zAb rfl rfl rfl hs (fun b3 w4 gg => ?_))))
  refine zCj (v := .agg #[.func _ _ _]) (cs := [_]) zAb rfl rfl rfl gg (fun b6 w7 gh => ?_)
  refine zBj rfl rfl (zAe (zAd (gf _ _ (zAg (fun gI gi => (zAc (zA0 (cs := [_]) zAb zeroValue3 rfl gh (fun g7 gJ gj => ?_))))))))
  refine zA0 (cs := [_]) zAb zeroValue3 rfl gj (fun g8 gK gk => ?_)
  refine zAs (i := 1) (v := .int _ _) (vs := [_]) zAb sizeOf3 rfl rfl rfl rfl rfl (by simp [Value.oneCell']) gk rfl (zNl rfl) (fun gL gl => ?_)
  refine zAs (i := 0) (v := .int _ _) (vs := [_]) zAb sizeOf3 rfl rfl rfl rfl rfl (by simp [Value.oneCell']) gl rfl (zNl rfl) (fun gM gd => ?_)
  refine zAe (zAd (gi _ _ (zAg (fun gN gm => (zAg (fun gO gn => (zAc (w_p (zAk isAgg69 gd rfl rfl (zAl (i := 3) (vs := [_]) rfl rfl)) rfl ?_))))))))
  refine zBe rfl rfl (zAr zAb call72 rfl rfl rfl rfl (c72 _ _ gd) ?_)
  rintro _ gP ⟨bp, bh, rfl, go⟩
  refine zAe (zAd (gn _ _ (zA8 ?_)))
  refine w_rangeC (([_,_] ++ B) ++ M) (fun i Bx => ∃ B M, Bx = B ++ M ∧ Memo c mm M ∧ ∃ B0, B = (g8, blk 3 [.int .i64 (i : Int)]) :: (g7, blk 3 [.int .i64 (((((truths c 0 hold).take (i)).filter q).length : Nat) : Int)]) :: B0 ∧ J i B0) (fun cd Bx => ∃ B M, Bx = B ++ M ∧ Memo c mm M ∧ False) rfl rfl rfl call91 (truths_iter c p 0 cb mm hk.app.cons.cons.cons.cons hco hold hh bp bh (zAl (i := 1) (vs := [_]) rfl rfl) (zAl (i := 0) (vs := [_]) rfl rfl)) (clsM_range (fun i B => ∃ B0, B = (g8, blk 3 [.int .i64 (i : Int)]) :: (g7, blk 3 [.int .i64 (((((truths c 0 hold).take (i)).filter q).length : Nat) : Int)]) :: B0 ∧ J i B0) (fun cd B => False) (fun i Bx => Iff.rfl) (fun cd Bx => Iff.rfl)) go (ask_perm _ _ _ _ _ _ _ _ _ _) ⟨_, M, rfl, hM, B, rfl, hJ0⟩ ?_ ?_ ?_
  ·
   intro lp i hi Bx Xr Xr2 gQ hJ hs K gp
   obtain ⟨BB, M3, rfl, g0, B0, rfl, hJi⟩ := hJ
   have hi2 : i < (truths c 0 hold).length := by simpa using hi
   rw [List.getElem_map]
   have hso := (zDz hco hh (List.getElem_mem hi2)).1
   have hls := hso.len
   obtain ⟨s, hsx⟩ : ∃ s, s = ((truths c 0 hold)[i]'hi2) := ⟨_, rfl⟩
   rw [← hsx] at hso hls ⊢
   have hcl := cnt_le q (truths c 0 hold) i
   have hx3 : Ats w0 ((bh, blk 3 [.int .i64 (hold : Int)]) :: (bp, blk 69 [.pointer (some ⟨cb, 0, none⟩)]) :: (b6, blk 82 [.func (.func fk) f1 cp]) :: (b3, blk 69 [.pointer (some ⟨cb, 0, none⟩)]) :: (X ++ F)) b3 0 [.pointer (some ⟨cb, 0, none⟩)] := zAl (i := 3) rfl rfl
   have hx5 : Ats w0 ((bh, blk 3 [.int .i64 (hold : Int)]) :: (bp, blk 69 [.pointer (some ⟨cb, 0, none⟩)]) :: (b6, blk 82 [.func (.func fk) f1 cp]) :: (b3, blk 69 [.pointer (some ⟨cb, 0, none⟩)]) :: (X ++ F)) b6 0 [.func (.func fk) f1 cp] := zAl (i := 2) rfl rfl
   rw [List.append_assoc] at hs
   replace hs := (show St _ _ (_ :: _ :: (B0 ++ (M3 ++ (Xr ++ ((bh, blk 3 [.int .i64 (hold : Int)]) :: (bp, blk 69 [.pointer (some ⟨cb, 0, none⟩)]) :: (b6, blk 82 [.func (.func fk) f1 cp]) :: (b3, blk 69 [.pointer (some ⟨cb, 0, none⟩)]) :: (X ++ F)))))) from hs)
   refine zAc (zA0 (cs := iv [0,0,0,0,0,0,0,0]) zAb zeroValue79 rfl hs (fun gq gR gr => ?_))
   refine zB6 (i := 0) (l := _) zAb sizeOf79 (by first | omega | rfl | (simp only [hls, zL] <;> omega)) rfl rfl rfl rfl rfl gr rfl (by first | omega | rfl | (simp only [hls, zL] <;> omega)) (fun gS gt => ?_)
   refine zAe (zAd (gp _ _ ([_,_,_] ++ (B0 ++ M3)) (st_in gt) (fun gT g3 => ?_)))
   replace g3 := st_out g3
   replace g3 := (show St _ _ (_ :: _ :: _ :: B0 ++ (M3 ++ (Xr2 ++ (_ :: _ :: _ :: _ :: X ++ (F))))) from g3)
   refine zA8 ?_
   refine zAg (fun gU gu => (zAc (w_p (zAk isAgg3 g3 rfl rfl (zAl (i := 1) (vs := [_]) rfl rfl)) rfl (w_p (zBq rfl rfl rfl rfl (by omega) (by omega)) rfl (zAs (i := 1) (v := .int _ _) (vs := [_]) zAb sizeOf3 rfl rfl rfl rfl rfl (by simp [Value.oneCell']) g3 rfl (zNl rfl) (fun gV gv => ?_))))))
   refine zAe (zAd (gu _ _ (zAg (fun gW gw => (w_drawD (C0 := fun w => St w0 w _) (C := fun w => ∃ B0 M, Memo c mm M ∧ St w0 w ((gq, blk 79 (iv s)) :: (g8, blk 3 [.int .i64 ((i : Int) + 1)]) :: (g7, blk 3 [.int .i64 (((((truths c 0 hold).take (i)).filter q).length : Nat) : Int)]) :: (B0 ++ (M ++ (Xr2 ++ ((bh, blk 3 [.int .i64 (hold : Int)]) :: (bp, blk 69 [.pointer (some ⟨cb, 0, none⟩)]) :: (b6, blk 82 [.func (.func fk) f1 cp]) :: (b3, blk 69 [.pointer (some ⟨cb, 0, none⟩)]) :: (X ++ F))))))) [] [(0,0),(1,1),(2,1),(3,1),(4,1),(5,2),(6,2)] zB0 (zB5 (by kernel_rfl)) gv (fun _ h => ⟨_, _, g0, h⟩) (fun _ h => h.drew) (fun gX g5 => ?_))))))
   refine d_w rfl (fun _ => zAf (o := 0) (i := 0) underlying82 rfl sizeOf80 rfl rfl rfl) rfl ?_
   refine zCn rfl zAb rfl ⟨_, _, g0, g5⟩ (fun _ ⟨B0, M3, g0, hq⟩ => (zAk isAgg80 hq.tail.tail.tail.drop.drop.drop rfl rfl hx5)) ?_
   refine zCn rfl zAb rfl ⟨_, _, g0, g5⟩ (fun _ ⟨B0, M3, g0, hq⟩ => (zBz (i := 0) isAgg79 sizeOf79 (by first | omega | rfl | (simp only [hls, zL] <;> omega)) hq rfl rfl rfl)) ?_
   refine zCn rfl zAb rfl ⟨_, _, g0, g5⟩ (fun _ ⟨B0, M3, g0, hq⟩ => (zAk isAgg69 hq.tail.tail.tail.drop.drop.drop rfl rfl hx3)) ?_
   refine zCn rfl zAb rfl ⟨_, _, g0, g5⟩ (fun _ ⟨B0, M3, g0, hq⟩ => (zBz (i := 0) isAgg79 sizeOf79 (by first | omega | rfl | (simp only [hls, zL] <;> omega)) hq rfl rfl rfl)) ?_
   refine zBl rfl ?_
   refine zAr zAb call59 rfl rfl rfl rfl (times_mid (P := [_,_,_]) (B := B0) (M := M3) (Y := Xr2) (F := ((bh, blk 3 [.int .i64 (hold : Int)]) :: (bp, blk 69 [.pointer (some ⟨cb, 0, none⟩)]) :: (b6, blk 82 [.func (.func fk) f1 cp]) :: (b3, blk 69 [.pointer (some ⟨cb, 0, none⟩)]) :: (X ++ F))) c p 0 cb mm (hk.app.cons.cons.cons.cons) s hso g0 g5) ?_
   rintro _ gY ⟨M5, rfl, ge, g6⟩
   replace g6 := (show St _ _ (_ :: _ :: _ :: B0 ++ (M5 ++ (Xr2 ++ (_ :: _ :: _ :: _ :: X ++ (F))))) from g6)
   refine zAe (qn ⟨⟨_, _, ge, g6⟩, ?_⟩)
   refine zBl rfl ?_
   refine zEc zAb rfl rfl rfl rfl ((show FCon _ _ _ _ _ from by rw [hsx]; exact QIs.mid (P := [_,_,_]) (B := B0) (M := M5) (Y := Xr2) (Q := [_,_,_,_] ++ X) hq hi2 hJi ge g6)) ?_
   rintro _ gZ ⟨rfl, B1, M4, hJ4, g9, g4⟩
   replace g4 := (show St _ _ (_ :: _ :: _ :: B1 ++ (M4 ++ (Xr2 ++ (_ :: _ :: _ :: _ :: X ++ (F))))) from g4)
   refine zAe (qn ⟨⟨_, _, g9, g4⟩, ?_⟩)
   refine zBh ?_
   refine zAd (gw _ _ (zA1 rfl rfl (fun ga => ?_) (fun ga => ?_)))
   ·
    try simp only [zS] at ga
    refine zAc (w_p (zAk isAgg3 g4 rfl rfl (zAl (i := 2) (vs := [_]) rfl rfl)) rfl (w_p (zBq rfl rfl rfl rfl (by omega) (by omega)) rfl (zAs (i := 2) (v := .int _ _) (vs := [_]) zAb sizeOf3 rfl rfl rfl rfl rfl (by simp [Value.oneCell']) g4 rfl (zNl rfl) (fun hD gx => ?_))))
    refine zAe (zAn (zDk ([_,_] ++ (B1 ++ M4)) (st_in gx.tail) ?_))
    exact ⟨_, M4, rfl, g9, B1, ⟨ask_cells (by omega) (by first | exact (cnt_yes hi2 (by assumption)).symm | exact (cnt_no hi2 (by assumption)).symm), hJ4⟩⟩
   try simp only [zS] at ga
   refine zAx (zAn (zDk ([_,_] ++ (B1 ++ M4)) (st_in g4.tail) ?_))
   exact ⟨_, M4, rfl, g9, B1, ⟨ask_cells (by omega) (by first | exact (cnt_yes hi2 (by assumption)).symm | exact (cnt_no hi2 (by assumption)).symm), hJ4⟩⟩
  ·
   intro bd Bx hG hJ hs
   obtain ⟨BB, M3, rfl, g0, B0, rfl, hJn⟩ := hJ
   rw [List.length_map] at hs hJn
   rw [List.take_length] at hs
   rw [List.append_assoc] at hs
   replace hs := (show St _ _ (_ :: _ :: _ :: (B0 ++ (M3 ++ ((bh, blk 3 [.int .i64 (hold : Int)]) :: (bp, blk 69 [.pointer (some ⟨cb, 0, none⟩)]) :: (b6, blk 82 [.func (.func fk) f1 cp]) :: (b3, blk 69 [.pointer (some ⟨cb, 0, none⟩)]) :: (X ++ F))))) from hs)
   refine zAn (zAd (gm _ _ (zAg (fun hH gy => (zAg (fun hN gz => (zAc (w_p (zAk isAgg3 hs rfl rfl (zAl (i := 2) (vs := [_]) rfl rfl)) rfl ?_))))))))
   refine zAe (zAd (gz _ _ (zA8 ?_)))
   refine zAg (fun hO gA => (zAc (w_p (zAk isAgg3 hs rfl rfl (zAl (i := 1) (vs := [_]) rfl rfl)) rfl (w_p (zB3 rfl rfl rfl rfl) rfl (w_p (zAo (v := .bool _) rfl rfl) rfl ?_)))))
   refine zAe (zAd (gA _ _ (zA1 rfl rfl (fun gb => ?_) (fun gb => ?_))))
   ·
    try simp only [zS] at gb
    refine zAg (fun hP gB => (zAc (zBj rfl rfl (zAe (zAd (gB _ _ (zA7 (zAy (zAm (zFo (i := 0) (l := [.tmp 6]) (vs := [_]) hs rfl rfl (fun hX gC => ⟨⟨⟨rfl, (rfl : _ = Value.int _ _)⟩, trivial⟩, ?_⟩)))))))))))
    exact ⟨congrArg (Value.int .i64) (ask_is (by unfold askOf; split <;> (try split) <;> omega)), B0, M3, hJn, g0, ask_back gC.tail.tail.tail⟩
   try simp only [zS] at gb
   refine zAg (fun hY gD => (zAc (w_p (zB3 rfl rfl rfl rfl) rfl (w_p (zAo (v := .bool _) rfl rfl) rfl (zAe (zAd (gD _ _ (zA1 rfl rfl (fun gc => ?_) (fun gc => ?_)))))))))
   ·
    try simp only [zS] at gc
    refine zAg (fun j0 gE => (zAc (zBj rfl rfl (zAe (zAd (gE _ _ (zA7 (zAy (zAm (zFo (i := 0) (l := [.tmp 6]) (vs := [_]) hs rfl rfl (fun j1 gF => ⟨⟨⟨rfl, (rfl : _ = Value.int _ _)⟩, trivial⟩, ?_⟩)))))))))))
    exact ⟨congrArg (Value.int .i64) (ask_is (by unfold askOf; split <;> (try split) <;> omega)), B0, M3, hJn, g0, ask_back gF.tail.tail.tail⟩
   try simp only [zS] at gc
   refine zAx (zAn (zAd (gy _ _ (zAg (fun j2 gG => (zAc (zBj rfl rfl (zAe (zAd (gG _ _ (zA7 (zFo (i := 0) (l := [.tmp 6]) (vs := [_]) hs rfl rfl (fun j3 gH => ⟨⟨⟨rfl, (rfl : _ = Value.int _ _)⟩, trivial⟩, ?_⟩)))))))))))))
   exact ⟨congrArg (Value.int .i64) (ask_is (by unfold askOf; split <;> (try split) <;> omega)), B0, M3, hJn, g0, ask_back gH.tail.tail.tail⟩
  intro _ _ _ _ hJ
  obtain ⟨_, _,_,_, h⟩ := hJ
  exact h.elim

end Go.Proofs.Ut
set_option maxRecDepth 20000
namespace Go.Proofs.Ut
open Go.Proofs.Tryz
open Go.Rt Go.Rt.Tu
open Go.Rt.Ha (firstE zCf zBu zB1 failE felt spanL upto zC1 listL fewest fewTo bit Bunch before fewStep zCm zDd zCc zCx zC6 zCw zB8)
attribute [local irreducible] WL WC Con Yd At Ats Sl Agree DW
theorem zHz (x0 : Int) (x1 : Int) (w : World) : (Instr.build 23 [(0, .int .i64 x0),(1, .int .i64 x1)].toArray).run Tryz.prog w = .ok (.agg #[.int .i64 x0, .int .i64 x1]) w := by kernel_rfl
theorem zGc (x0 : Int) (w : World) : (Instr.buildSlice 35 1 [(0, .int .i64 x0)].toArray).run Tryz.prog w = .ok (.slice (some ⟨w.heap.size, 0, none⟩) 1 1) (w.alloc (Go.Rt.blk 3 [.int .i64 x0])) := by kernel_rfl
theorem zFb (x0 : Bool) (x1 : Int) (w : World) : (Instr.buildSlice 121 1 [(0, .agg #[.bool x0, .int .i64 x1])].toArray).run Tryz.prog w = .ok (.slice (some ⟨w.heap.size, 0, none⟩) 1 1) (w.alloc (Go.Rt.blk 73 [.bool x0, .int .i64 x1])) := by kernel_rfl
theorem Try_UJ_fb3 (x0 : Go.Fn) (a0 c0 : Array Value) (w : World) : (Instr.build 82 [(0, .func x0 a0 c0)].toArray).run Tryz.prog w = .ok (.agg #[.func x0 a0 c0]) w := by kernel_rfl
theorem zEb : Tryz.prog.info? 3 = some Tryz.t3 := by kernel_rfl
theorem zG5 {w0 : World} {v : Value} {l : List Int} {B : List (Nat × Obj)} (h : Rt.Own v 3 1 l.length (iv l) B) : ∃ a c, v = .slice a l.length c ∧ Sl w0 B a 1 (l.map fun x => [Value.int .i64 x]) ∧ (a = none → c = 0) ∧ l.length ≤ c := by
  obtain ⟨a, c, hv, hs⟩ := own_sl_map (w0 := w0) h rfl []
  rw [List.append_nil] at hs
  refine ⟨a, c, hv, hs, fun ha => ?_, ?_⟩
  · rcases h.2 with ⟨h2, _⟩ | ⟨b, cap, cs, h2, _⟩
    · rw [h2] at hv; injection hv with _ _ h3; exact h3.symm
    · rw [h2] at hv; injection hv with h3; rw [ha] at h3; cases h3
  · rcases h.2 with ⟨h2, h3, _⟩ | ⟨b, cap, cs, h2, _, h4, _⟩
    · rw [h2] at hv; injection hv with _ _ h5; omega
    · rw [h2] at hv; injection hv with _ _ h5; omega
theorem zFi {n : Int} {l : List Int} (h : (noneA n l).1 = false) : ∀ z ∈ l, 0 ≤ z ∧ z < n := by
  intro z hz
  have h2 : l.any (out 0 (n - 1)) = false := h
  rw [List.any_eq_false] at h2
  have := out_f.1 (Bool.eq_false_iff.2 (h2 z hz))
  omega
theorem hoursA_ok {c : Cargo} {l : List Int} (h : (hoursA c l).1 = false) : ∀ z ∈ l, 0 ≤ z ∧ z ≤ c.heat.length := by
  intro z hz
  have h2 : l.any (out 0 c.heat.length) = false := h
  rw [List.any_eq_false] at h2
  exact out_f.1 (Bool.eq_false_iff.2 (h2 z hz))
theorem any_1 {a : Bool × Int} (h : anyAsk [a] = false) : a.1 = false := by simpa [anyAsk] using h
theorem any_2 {a b : Bool × Int} (h : anyAsk [a, b] = false) : a.1 = false ∧ b.1 = false := by simpa [anyAsk] using h
theorem any_3 {a b d : Bool × Int} (h : anyAsk [a, b, d] = false) : a.1 = false ∧ b.1 = false ∧ d.1 = false := by simpa [anyAsk] using h
theorem turns_q0 {c : Cargo} {n : Nat} {s : List Int} (h : (times c s).getD n 0 = never c) : false = turnsQ c n s := by unfold turnsQ tOf; rw [decide_eq_false (by rw [h]; simp)]
theorem zF3 {c : Cargo} {n : Nat} {s : List Int} (h : ¬ (times c s).getD n 0 = never c) : true = turnsQ c n s := by unfold turnsQ tOf; rw [decide_eq_true h]
theorem turns_s0 {c : Cargo} {n : Nat} {s : List Int} {a : (Int × Int) × Bool} (h : (times c s).getD n 0 = never c) : turnsSt c n a s = a := by unfold turnsSt tOf; rw [if_pos h]
theorem turns_s1 {c : Cargo} {n : Nat} {s : List Int} {a : (Int × Int) × Bool} (h : ¬ (times c s).getD n 0 = never c) (h2 : a.2 = true) : turnsSt c n a s = ((min (tOf c s n) (tOf c s n), max (tOf c s n) (tOf c s n)), false) := by unfold turnsSt tOf; rw [if_neg h, if_pos h2]
theorem turns_s2 {c : Cargo} {n : Nat} {s : List Int} {a : (Int × Int) × Bool} (h : ¬ (times c s).getD n 0 = never c) (h2 : a.2 = false) : turnsSt c n a s = ((min a.1.1 (tOf c s n), max a.1.2 (tOf c s n)), a.2) := by unfold turnsSt tOf; rw [if_neg h, if_neg (by simp [h2]), h2]
theorem turnsP_e {c : Cargo} {n : Int} (h : ¬ enterE c [noneA c.lots.length [n]] = 0) : turnsP c n = ((0,0), 0, enterE c [noneA c.lots.length [n]]) := by unfold turnsP; rw [if_pos h]
theorem turnsP_y {c : Cargo} {n : Int} (h : enterE c [noneA c.lots.length [n]] = 0) : turnsP c n = ((turnsA c n.toNat (truths c 0 (holdOf c n.toNat))).1, Tu.ask c (holdOf c n.toNat) (turnsQ c n.toNat), 0) := by unfold turnsP; rw [if_neg (by simp [h])]
theorem safeP_e {c : Cargo} {n : Int} (h : ¬ enterE c [hoursA c [n]] = 0) : safeP c n = ([], enterE c [hoursA c [n]]) := by unfold safeP; rw [if_pos h]
theorem safeP_y {c : Cargo} {n : Int} (h : enterE c [hoursA c [n]] = 0) : safeP c n = (safeTo c n c.lots.length, 0) := by unfold safeP; rw [if_neg (by simp [h])]
theorem safe_yes {c : Cargo} {hour : Int} {i : Nat} (hi : i < c.lots.length) (h : c.lots[i].frm ≤ hour) (h2 : Tu.ask c (holdOf c i) (safeQ c hour i) = 1) : safeTo c hour (i + 1) = safeTo c hour i ++ [(i : Int)] := by rw [safeTo, zD1 hi, if_pos ⟨h, h2⟩]
theorem safe_no {c : Cargo} {hour : Int} {i : Nat} (hi : i < c.lots.length) (h : ¬ c.lots[i].frm ≤ hour ∨ ¬ Tu.ask c (holdOf c i) (safeQ c hour i) = 1) : safeTo c hour (i + 1) = safeTo c hour i := by
  rw [safeTo, zD1 hi, if_neg (by rintro ⟨h1, h2⟩; rcases h with h | h <;> exact absurd (by assumption) h)]
theorem safe_len (c : Cargo) (hour : Int) : ∀ i, (safeTo c hour i).length ≤ i
  | 0 => Nat.le_refl _
  | i + 1 => by
    have := safe_len c hour i
    rw [safeTo]; split
    · simp; omega
    · omega
theorem zIa {v : Value} {l : List Int} {z : Int} {B : List (Nat × Obj)} (h : Rt.Own v 3 1 (l.length + 1) (iv l ++ [[Value.int .i64 z]].flatten) B) : Rt.Own v 3 1 (l ++ [z]).length (iv (l ++ [z])) B := by simpa [iv] using h
theorem c40 {w0 w : World} {F : List (Nat × Obj)} (c : Cargo) (p : AtT) (cb mm : Nat) (hk : CK w0 F c p 0 cb mm) (n : Nat) (hn5 : n < 5) (b3 b7 b8 b4 : Nat) (h3 : Ats w0 F b3 0 [.int .i64 (n : Int)]) (h7 : Ats w0 F b7 0 [.pointer (some ⟨cb, 0, none⟩)]) (s : List Int) (hls : s.length = 8) (a : (Int × Int) × Bool) (hs : St w0 w ((b8, blk 4 [.bool a.2]) :: (b4, blk 23 [.int .i64 a.1.1, .int .i64 a.1.2]) :: F)) :
  Con Tryz.prog 40 [ia s, ia (times c s), .pointer (some ⟨b3,0, none⟩), .pointer (some ⟨b7,0, none⟩), .pointer (some ⟨b8,0, none⟩), .pointer (some ⟨b4,0, none⟩)] w fun v w' => v = .bool (turnsQ c n s) ∧ St w0 w' ((b8, blk 4 [.bool (turnsSt c n a s).2]) :: (b4, blk 23 [.int .i64 (turnsSt c n a s).1.1, .int .i64 (turnsSt c n a s).1.2]) :: F) := by
  refine zAu (n := 30) func40 rfl rfl (zNl rfl) ?_
  have htl := zBf c s
  refine zAg (fun K2 ga => (zAc (zDu (l := _) zAb rfl rfl rfl hs (fun b3 w4 gb => ?_))))
  refine zDu (l := _) zAb rfl rfl rfl gb (fun b6 w7 g3 => ?_)
  refine zBj rfl rfl (zAe (zAd (ga _ _ (zAg (fun gm gc => (zAc (w_p (zAk isAgg3 g3.tail.tail.tail.tail rfl rfl h3) rfl (w_p (zCb underlying77 sizeOf3 rfl rfl rfl rfl (i := n) (by first | rfl | omega) (by omega)) rfl ?_))))))))
  refine w_p (zAk isAgg3 g3 rfl rfl (zCy (i := 0) (j := n) rfl (by first | omega | rfl | (simp only [hls, zBf, zL] <;> omega)))) rfl ?_
  refine zBs rfl rfl (zAe (zAd (gc _ _ (zAg (fun gn gd => (zAg (fun go ge => (zAc (zBe rfl rfl (w_p (zAk isAgg69 g3.tail.tail.tail.tail rfl rfl h7) rfl (zAr zAb call41 rfl rfl rfl rfl (c41 c _ 0 cb mm hk.cons.cons.cons.cons g3) ?_)))))))))))
  rintro _ gp ⟨rfl, g0⟩
  refine w_p (zB3 rfl rfl rfl rfl) rfl (zAe (zAd (ge _ _ (zA1 rfl rfl (fun g4 => ?_) (fun g4 => ?_)))))
  ·
   try simp only [zS] at g4
   refine zAg (fun gq gf => (zAc (zBj rfl rfl (zAe (zAd (gf _ _ (zA7 (zAm (zBa (l := [.tmp 8]) (vs := [_]) rfl ⟨⟨rfl, (rfl : _ = Value.bool _)⟩, trivial⟩ ?_)))))))))
   first
     | exact ⟨congrArg Value.bool (turns_q0 (by assumption)), by rw [turns_s0 (by assumption)]; exact g0.tail.tail⟩
     | exact ⟨congrArg Value.bool (zF3 (by assumption)), by rw [turns_s1 (by assumption) (by assumption)]; exact g0.tail.tail⟩
     | exact ⟨congrArg Value.bool (zF3 (by assumption)), by rw [turns_s2 (by assumption) (by assumption)]; exact g0.tail.tail⟩
  try simp only [zS] at g4
  refine zAx (zAd (gd _ _ (zAg (fun gr g9 => (zAg (fun gt gg => (zAc (w_p (zAk isAgg4 g0 rfl rfl (zAl (i := 2) (vs := [_]) rfl rfl)) rfl ?_))))))))
  refine zAe (zAd (gg _ _ (zA1 rfl rfl (fun g5 => ?_) (fun g5 => ?_))))
  ·
   try simp only [zS] at g5
   refine zAc (zBe rfl rfl (zBe rfl rfl (w_p (zBx (ps := [(0, _),(1, _)]) (pv := [(0, .int _ _),(1, .int _ _)]) rfl rfl (fun w => zHz _ _ w)) rfl (zAs (i := 3) (v := .agg #[.int _ _, .int _ _]) (vs := [_,_]) zAb sizeOf23 rfl rfl rfl rfl rfl (by simp [Value.oneCell']) g0 rfl (zNl rfl) (fun gu gh => ?_)))))
   refine zAs (i := 2) (v := .bool _) (vs := [_]) zAb sizeOf4 rfl rfl rfl rfl rfl (by simp [Value.oneCell']) gh rfl (zNl rfl) (fun gv g6 => ?_)
   refine zAe (zAd (g9 _ _ (zAg (fun gw gi => (zAc (w_p (zAf (o := 0) (i := 0) underlying23 rfl sizeOf3 rfl rfl rfl) rfl (w_p (zAk isAgg3 g6 rfl rfl (zAl (i := 3) (vs := [_]) rfl rfl)) rfl ?_)))))))
   refine zBe rfl rfl (w_p (y_min2 rfl rfl rfl rfl) rfl (w_p (zAf (o := 1) (i := 1) underlying23 rfl sizeOf3 rfl rfl rfl) rfl (w_p (zAk isAgg3 g6 rfl rfl (zAl (i := 3) (vs := [_]) rfl rfl)) rfl (zBe rfl rfl (w_p (y_max2 rfl rfl rfl rfl) rfl ?_)))))
   refine w_p (zBx (ps := [(0, _),(1, _)]) (pv := [(0, .int _ _),(1, .int _ _)]) rfl rfl (fun w => zHz _ _ w)) rfl (zAs (i := 3) (v := .agg #[.int _ _, .int _ _]) (vs := [_,_]) zAb sizeOf23 rfl rfl rfl rfl rfl (by simp [Value.oneCell']) g6 rfl (zNl rfl) (fun gx g7 => ?_))
   refine zAe (zAd (gi _ _ (zAg (fun gy gj => (zAc (zBj rfl rfl (zAe (zAd (gj _ _ (zA7 (zBa (l := [.tmp 8]) (vs := [_]) rfl ⟨⟨rfl, (rfl : _ = Value.bool _)⟩, trivial⟩ ?_)))))))))))
   first
     | exact ⟨congrArg Value.bool (turns_q0 (by assumption)), by rw [turns_s0 (by assumption)]; exact g7.tail.tail⟩
     | exact ⟨congrArg Value.bool (zF3 (by assumption)), by rw [turns_s1 (by assumption) (by assumption)]; exact g7.tail.tail⟩
     | exact ⟨congrArg Value.bool (zF3 (by assumption)), by rw [turns_s2 (by assumption) (by assumption)]; exact g7.tail.tail⟩
  try simp only [zS] at g5
  refine zAx (zAd (g9 _ _ (zAg (fun gz gk => (zAc (w_p (zAf (o := 0) (i := 0) underlying23 rfl sizeOf3 rfl rfl rfl) rfl (w_p (zAk isAgg3 g0 rfl rfl (zAl (i := 3) (vs := [_]) rfl rfl)) rfl ?_)))))))
  refine zBe rfl rfl (w_p (y_min2 rfl rfl rfl rfl) rfl (w_p (zAf (o := 1) (i := 1) underlying23 rfl sizeOf3 rfl rfl rfl) rfl (w_p (zAk isAgg3 g0 rfl rfl (zAl (i := 3) (vs := [_]) rfl rfl)) rfl (zBe rfl rfl (w_p (y_max2 rfl rfl rfl rfl) rfl ?_)))))
  refine w_p (zBx (ps := [(0, _),(1, _)]) (pv := [(0, .int _ _),(1, .int _ _)]) rfl rfl (fun w => zHz _ _ w)) rfl (zAs (i := 3) (v := .agg #[.int _ _, .int _ _]) (vs := [_,_]) zAb sizeOf23 rfl rfl rfl rfl rfl (by simp [Value.oneCell']) g0 rfl (zNl rfl) (fun gA g8 => ?_))
  refine zAe (zAd (gk _ _ (zAg (fun gB gl => (zAc (zBj rfl rfl (zAe (zAd (gl _ _ (zA7 (zBa (l := [.tmp 8]) (vs := [_]) rfl ⟨⟨rfl, (rfl : _ = Value.bool _)⟩, trivial⟩ ?_)))))))))))
  first
    | exact ⟨congrArg Value.bool (turns_q0 (by assumption)), by rw [turns_s0 (by assumption)]; exact g8.tail.tail⟩
    | exact ⟨congrArg Value.bool (zF3 (by assumption)), by rw [turns_s1 (by assumption) (by assumption)]; exact g8.tail.tail⟩
    | exact ⟨congrArg Value.bool (zF3 (by assumption)), by rw [turns_s2 (by assumption) (by assumption)]; exact g8.tail.tail⟩

theorem turns_qis {w0 : World} {F : List (Nat × Obj)} (c : Cargo) (p : AtT) (cb mm : Nat) (hk : CK w0 F c p 0 cb mm) (hco : c.Ok) (hold : Nat) (hh : hold < c.holds.length) (n : Nat) (hn5 : n < 5) (b3 b7 b8 b4 : Nat) (h3 : Ats w0 F b3 0 [.int .i64 (n : Int)]) (h7 : Ats w0 F b7 0 [.pointer (some ⟨cb, 0, none⟩)]) : QIs w0 F c mm hold (.func (.func 40) #[] #[.pointer (some ⟨b3,0, none⟩), .pointer (some ⟨b7,0, none⟩), .pointer (some ⟨b8,0, none⟩), .pointer (some ⟨b4,0, none⟩)]) (turnsQ c n) (fun i B => B = [(b8, blk 4 [.bool (turnsA c n ((truths c 0 hold).take i)).2]), (b4, blk 23 [.int .i64 (turnsA c n ((truths c 0 hold).take i)).1.1, .int .i64 (turnsA c n ((truths c 0 hold).take i)).1.2])]) := by
  intro i hi B M X w hB hM hs
  subst hB
  have g0 := hs.perm (zAa X [_,_] (M ++ F))
  refine (zDw call40 (c40 (F := X ++ (M ++ F)) c p cb mm hk.app.app n hn5 b3 b7 b8 b4 h3.app.app h7.app.app _ (zDz hco hh (List.getElem_mem hi)).1.len _ g0)).mono ?_
  rintro v w' ⟨rfl, g3⟩
  exact ⟨rfl, _, M, by show _ = _; rw [turns_step hi], hM, g3.perm (zAa [_,_] X (M ++ F))⟩
theorem c11 {w0 w : World} {F : List (Nat × Obj)} (c : Cargo) (p : AtT) (hm : TIn w0 F c p) (lot : Int) (hs : St w0 w F) :
  Con Tryz.prog 11 [.agg (c.cells p).toArray, .int .i64 lot] w fun v w' => v = .tuple #[.agg #[.int .i64 (turnsP c lot).1.1, .int .i64 (turnsP c lot).1.2], .int .i64 (turnsP c lot).2.1, .int .i64 (turnsP c lot).2.2] ∧ St w0 w' F := by
  refine zAu (n := 37) func11 rfl rfl (zNl rfl) ?_
  have hll0 := hm.ll
  refine zAg (fun K2 gO => (zAc (zCj (v := .agg #[.slice _ _ _, .int _ _, .slice _ _ _, .slice _ _ _, .slice _ _ _]) (cs := [_,_,_,_,_]) zAb rfl rfl rfl hs (fun b3 w4 gP => ?_))))
  refine zCj (v := .int _ _) (cs := [_]) zAb rfl rfl rfl gP (fun b6 w7 gQ => ?_)
  refine zA0 (cs := [_,_]) zAb zeroValue23 rfl gQ (fun b9 j4 gR => ?_)
  refine zBj rfl rfl (zBj rfl rfl (zAe (zAd (gO _ _ (zAg (fun j5 gA => (w_cut [6,7,9,10,11,12,13,14,15,16,17,18,19,20] [6,7] (fun vs w => ∃ bc, (¬ enterE c [noneA c.lots.length [lot]] = 0 ∧ vs = [.int .i64 (enterE c [noneA c.lots.length [lot]]), .pointer (some ⟨bc, 0, none⟩)] ∧ St w0 w ((b9, blk 23 [.int .i64 0, .int .i64 0]) :: (b6, blk 3 [.int .i64 lot]) :: (b3, blk 42 (c.cells p)) :: F)) ∨ (enterE c [noneA c.lots.length [lot]] = 0 ∧ ∃ cb mm M, vs = [.int .i64 0, .pointer (some ⟨bc, 0, none⟩)] ∧ Memo c mm M ∧ St w0 w ((cb, blk 132 [.slice p.ae c.heat.length p.ce, .int .i64 c.gas, .slice p.ah c.holds.length p.ch, .slice p.al c.lots.length p.cl, .slice p.an c.seen.length p.cn, .int .i64 ((0 : Nat) : Int), .map (some mm)]) :: (bc, blk 69 [.pointer (some ⟨cb, 0, none⟩)]) :: (b9, blk 23 [.int .i64 0, .int .i64 0]) :: (b6, blk 3 [.int .i64 lot]) :: (b3, blk 42 (c.cells p)) :: (M ++ F)))) (fun j6 g0 => ?_) ?_)))))))
  ·
   refine w_drawT (C := fun w => St w0 w _) [13] (.two [(0,1),(1,0),(2,1),(3,0),(4,1)] 5 12 (.two [] 6 12 (.two [] 7 12 (.two [] 8 12 (.done [(9,0),(10,0),(11,0),(12,2),(13,3),(14,0)]) (.done [(8,2),(9,0),(10,0),(11,0),(13,3),(14,0)])) (.done [(7,2),(8,2),(9,0),(10,0),(11,0),(13,3),(14,0)])) (.done [(6,2),(7,2),(8,2),(9,0),(10,0),(11,0),(13,3),(14,0)])) (.done [(5,2),(6,2),(7,2),(8,2),(9,0),(10,0),(11,0),(13,3),(14,0)])) zB0 (by kernel_rfl) gR (fun _ h => h.drew) (fun j7 g8 => ?_)
   refine zFa ?_
   refine zBb rfl zAb rfl g8 (fun _ hq => (zA9 (vs := [_,_,_,_,_]) isAgg42 sizeOf42 hq rfl rfl (zAl (i := 2) (vs := [_,_,_,_,_]) rfl rfl))) ?_
   refine d_w rfl (fun _ => zAf (o := 3) (i := 3) underlying42 rfl sizeOf39 rfl rfl rfl) rfl ?_
   refine zBb rfl zAb rfl g8 (fun _ hq => (zAk isAgg39 hq rfl rfl (zAl (i := 2) (vs := [_]) rfl rfl))) ?_
   refine d_w rfl (fun _ => zBo underlying39 rfl rfl) rfl ?_
   refine zBb rfl zAb rfl g8 (fun _ hq => (zAk isAgg3 hq rfl rfl (zAl (i := 1) (vs := [_]) rfl rfl))) ?_
   refine zHu rfl rfl ?_ ?_
   ·
    refine zA3 (ps := [(0, _)]) (pv := [(0, .int _ _)]) (cs := [_]) zAb rfl rfl (fun w => zGc _ w) g8 (fun j8 j9 gd => ?_)
    refine zAe (qn ⟨gd.tail, ?_⟩)
    refine zFa ?_
    refine zHu rfl rfl ?_ ?_
    ·
     refine zAr zAb call39 rfl rfl rfl rfl (c39 _ (by omega) _ _ [_] (by simp) (zBd (i := 0) (rows := [[_]]) rfl (by simp) rfl) gd) ?_
     rintro _ ja ⟨rfl, ge⟩
     refine zAe (qn ⟨ge.tail, ?_⟩)
     refine zFa ?_
     refine zHu rfl rfl ?_ ?_
     ·
      refine zA3 (ps := [(0, _)]) (pv := [(0, .agg #[.bool _, .int _ _])]) (cs := [_,_]) zAb rfl rfl (fun w => zFb _ _ w) ge (fun jb jc gf => ?_)
      refine zAe (qn ⟨gf.tail.tail, ?_⟩)
      refine zFa ?_
      refine zHu rfl rfl ?_ ?_
      ·
       refine zAr zAb call32 rfl rfl rfl rfl (c32 c _ hm.cons.cons.cons.cons.cons _ _ [noneA c.lots.length [lot]] (by simp [spoilsL, putL, outL]) (fun x hx _ => by simp only [List.mem_cons, List.not_mem_nil, or_false] at hx; rcases hx with rfl <;> simp [noneA, hoursA]) (zBd (i := 0) (rows := (arows [noneA c.lots.length [lot]])) rfl (fun row h => by obtain ⟨x, _, rfl⟩ := List.mem_map.1 h; rfl) rfl) gf) ?_
       rintro _ jd (⟨hee, rfl, g7⟩ | ⟨hee, cb, mm, M, rfl, hM, g7⟩)
       ·
        refine zAe (qn ⟨g7.tail.tail, ?_⟩)
        refine zDg ?_
        refine d_w rfl (fun _ => zAi (v := .tuple _) rfl rfl) rfl ?_
        refine d_w rfl (fun _ => zAh (v := .pointer _) rfl rfl rfl) rfl ?_
        refine d_w rfl (fun _ => zAh (v := .int _ _) rfl rfl rfl) rfl ?_
        refine zBl rfl ?_
        refine zA0 (cs := [_]) zAb zeroValue69 rfl g7 (fun je jf gb => ?_)
        refine zAe (qn ⟨gb.tail.tail.tail, ?_⟩)
        replace gb := (show St _ _ (_ :: _ :: _ :: _ :: _ :: _ :: F) from gb)
        refine zBm rfl ?_
        refine zAs (i := 0) (v := .pointer _) (vs := [_]) zAb sizeOf69 rfl rfl rfl rfl rfl (by simp [Value.oneCell']) gb rfl (zNl rfl) (fun jg gS => ?_)
        refine zAe (qn ?_)
        refine d_w rfl (fun _ => zA2 rfl rfl) rfl ?_
        refine zBh ?_
        refine zAd (g0 _ _ (Md.intro (by repeat (first | exact zAz | exact zA5 | refine zA4 rfl ?_ | refine zAw rfl ?_ _ | refine zAt rfl ?_)) ?_))
        have gg := gS.tail.tail.tail
        replace gg := (show St _ _ (_ :: _ :: _ :: F) from gg)
        exact ⟨_, .inl ⟨hee, rfl, gg⟩⟩
       replace g7 := (show St _ _ (M ++ (_ :: _ :: _ :: _ :: _ :: _ :: F)) from g7)
       refine zAe (qn ⟨g7.drop.tail.tail.tail, ?_⟩)
       refine zDg ?_
       refine d_w rfl (fun _ => zAi (v := .tuple _) rfl rfl) rfl ?_
       refine d_w rfl (fun _ => zAh (v := .pointer _) rfl rfl rfl) rfl ?_
       refine d_w rfl (fun _ => zAh (v := .int _ _) rfl rfl rfl) rfl ?_
       refine zBl rfl ?_
       refine zA0 (cs := [_]) zAb zeroValue69 rfl g7 (fun jh ji gB => ?_)
       refine zAe (qn ⟨gB.tail.drop.tail.tail.tail, ?_⟩)
       have gh := ((((((((gB.perm (zAa [_] M _)).perm ((List.Perm.append_left M (zAa [_,_,_,_,_,_] [_] _)).trans (zAa M [_] _))).perm ((List.Perm.append_left [_] ((List.Perm.append_left M (zAa [_,_,_,_,_] [_] _)).trans (zAa M [_] _))).trans (zAa [_] [_] _))).perm ((List.Perm.append_left [_,_] ((List.Perm.append_left M (zAa [_,_,_,_] [_] _)).trans (zAa M [_] _))).trans (zAa [_,_] [_] _))).perm ((List.Perm.append_left [_,_,_] ((List.Perm.append_left M (zAa [_,_,_] [_] _)).trans (zAa M [_] _))).trans (zAa [_,_,_] [_] _))).perm ((List.Perm.append_left [_,_,_,_] ((List.Perm.append_left M (zAa [_,_] [_] _)).trans (zAa M [_] _))).trans (zAa [_,_,_,_] [_] _))).perm ((List.Perm.append_left [_,_,_,_,_] ((List.Perm.append_left M (zAa [_] [_] _)).trans (zAa M [_] _))).trans (zAa [_,_,_,_,_] [_] _))).perm ((List.Perm.append_left [_,_,_,_,_,_] (zAa M [_] _)).trans (zAa [_,_,_,_,_,_] [_] _)))
       replace gh := (show St _ _ (_ :: _ :: _ :: _ :: _ :: _ :: _ :: M ++ (F)) from gh)
       refine zBm rfl ?_
       refine zAs (i := 0) (v := .pointer _) (vs := [_]) zAb sizeOf69 rfl rfl rfl rfl rfl (by simp [Value.oneCell']) gh rfl (zNl rfl) (fun jj gT => ?_)
       refine zAe (qn ?_)
       refine d_w rfl (fun _ => zA2 rfl rfl) rfl ?_
       refine zBh ?_
       refine zAd (g0 _ _ (Md.intro (by repeat (first | exact zAz | exact zA5 | refine zA4 rfl ?_ | refine zAw rfl ?_ _ | refine zAt rfl ?_)) ?_))
       have gi := ((((((((gT.perm (zAa [_,_] [_] _)).tail.perm (zAa [_,_] [_] _)).tail.perm (zAa [_,_,_,_,_] M _)).perm ((List.Perm.append_left M (zAa [_,_,_,_] [_] _)).trans (zAa M [_] _))).perm ((List.Perm.append_left [_] ((List.Perm.append_left M (zAa [_,_,_] [_] _)).trans (zAa M [_] _))).trans (zAa [_] [_] _))).perm ((List.Perm.append_left [_,_] ((List.Perm.append_left M (zAa [_,_] [_] _)).trans (zAa M [_] _))).trans (zAa [_,_] [_] _))).perm ((List.Perm.append_left [_,_,_] (zAa M [_] _)).trans (zAa [_,_,_] [_] _))).perm ((List.Perm.append_left [_,_,_,_] (zAa M [_] _)).trans (zAa [_,_,_,_] [_] _)))
       replace gi := (show St _ _ (_ :: _ :: _ :: _ :: _ :: M ++ (F)) from gi)
       exact ⟨_, .inr ⟨hee, cb, mm, M, rfl, hM, gi⟩⟩
      refine zA0 (cs := [_]) zAb zeroValue69 rfl gf (fun jk jl gC => ?_)
      refine zAe (qn ⟨gC.tail.tail.tail, ?_⟩)
      refine zDg ?_
      refine zBl rfl ?_
      refine zAr zAb call32 rfl rfl rfl rfl (c32 c _ hm.cons.cons.cons.cons.cons.cons _ _ [noneA c.lots.length [lot]] (by simp [spoilsL, putL, outL]) (fun x hx _ => by simp only [List.mem_cons, List.not_mem_nil, or_false] at hx; rcases hx with rfl <;> simp [noneA, hoursA]) (zBd (i := 1) (rows := (arows [noneA c.lots.length [lot]])) rfl (fun row h => by obtain ⟨x, _, rfl⟩ := List.mem_map.1 h; rfl) rfl) gC) ?_
      rintro _ jm (⟨hee, rfl, g3⟩ | ⟨hee, cb, mm, M, rfl, hM, g3⟩)
      ·
       refine zAe (qn ⟨g3.tail.tail.tail, ?_⟩)
       refine d_w rfl (fun _ => zAi (v := .tuple _) rfl rfl) rfl ?_
       refine d_w rfl (fun _ => zAh (v := .pointer _) rfl rfl rfl) rfl ?_
       refine d_w rfl (fun _ => zAh (v := .int _ _) rfl rfl rfl) rfl ?_
       replace g3 := (show St _ _ (_ :: _ :: _ :: _ :: _ :: _ :: F) from g3)
       refine zBm rfl ?_
       refine zAs (i := 0) (v := .pointer _) (vs := [_]) zAb sizeOf69 rfl rfl rfl rfl rfl (by simp [Value.oneCell']) g3 rfl (zNl rfl) (fun jn gU => ?_)
       refine zAe (qn ?_)
       refine d_w rfl (fun _ => zA2 rfl rfl) rfl ?_
       refine zBh ?_
       refine zAd (g0 _ _ (Md.intro (by repeat (first | exact zAz | exact zA5 | refine zA4 rfl ?_ | refine zAw rfl ?_ _ | refine zAt rfl ?_)) ?_))
       have gj := gU.tail.tail.tail
       replace gj := (show St _ _ (_ :: _ :: _ :: F) from gj)
       exact ⟨_, .inl ⟨hee, rfl, gj⟩⟩
      replace g3 := (show St _ _ (M ++ (_ :: _ :: _ :: _ :: _ :: _ :: _ :: F)) from g3)
      refine zAe (qn ⟨g3.drop.tail.tail.tail.tail, ?_⟩)
      refine d_w rfl (fun _ => zAi (v := .tuple _) rfl rfl) rfl ?_
      refine d_w rfl (fun _ => zAh (v := .pointer _) rfl rfl rfl) rfl ?_
      refine d_w rfl (fun _ => zAh (v := .int _ _) rfl rfl rfl) rfl ?_
      have gk := (((((((g3.perm ((List.Perm.append_left M (zAa [_,_,_,_,_,_] [_] _)).trans (zAa M [_] _))).perm ((List.Perm.append_left [_] ((List.Perm.append_left M (zAa [_,_,_,_,_] [_] _)).trans (zAa M [_] _))).trans (zAa [_] [_] _))).perm ((List.Perm.append_left [_,_] ((List.Perm.append_left M (zAa [_,_,_,_] [_] _)).trans (zAa M [_] _))).trans (zAa [_,_] [_] _))).perm ((List.Perm.append_left [_,_,_] ((List.Perm.append_left M (zAa [_,_,_] [_] _)).trans (zAa M [_] _))).trans (zAa [_,_,_] [_] _))).perm ((List.Perm.append_left [_,_,_,_] ((List.Perm.append_left M (zAa [_,_] [_] _)).trans (zAa M [_] _))).trans (zAa [_,_,_,_] [_] _))).perm ((List.Perm.append_left [_,_,_,_,_] ((List.Perm.append_left M (zAa [_] [_] _)).trans (zAa M [_] _))).trans (zAa [_,_,_,_,_] [_] _))).perm ((List.Perm.append_left [_,_,_,_,_,_] (zAa M [_] _)).trans (zAa [_,_,_,_,_,_] [_] _)))
      replace gk := (show St _ _ (_ :: _ :: _ :: _ :: _ :: _ :: _ :: M ++ (F)) from gk)
      refine zBm rfl ?_
      refine zAs (i := 1) (v := .pointer _) (vs := [_]) zAb sizeOf69 rfl rfl rfl rfl rfl (by simp [Value.oneCell']) gk rfl (zNl rfl) (fun jo gV => ?_)
      refine zAe (qn ?_)
      refine d_w rfl (fun _ => zA2 rfl rfl) rfl ?_
      refine zBh ?_
      refine zAd (g0 _ _ (Md.intro (by repeat (first | exact zAz | exact zA5 | refine zA4 rfl ?_ | refine zAw rfl ?_ _ | refine zAt rfl ?_)) ?_))
      have gl := ((gV.perm (zAa [_,_] [_] _)).tail.perm (zAa [_,_] [_] _)).tail
      replace gl := (show St _ _ (_ :: _ :: _ :: _ :: _ :: M ++ (F)) from gl)
      exact ⟨_, .inr ⟨hee, cb, mm, M, rfl, hM, gl⟩⟩
     refine zA0 (cs := [_]) zAb zeroValue69 rfl ge (fun jp jq gD => ?_)
     refine zAe (qn ⟨gD.tail.tail, ?_⟩)
     refine zDg ?_
     refine zBl rfl ?_
     refine zA3 (ps := [(0, _)]) (pv := [(0, .agg #[.bool _, .int _ _])]) (cs := [_,_]) zAb rfl rfl (fun w => zFb _ _ w) gD (fun jr js gE => ?_)
     refine zAe (qn ⟨gE.tail.tail.tail, ?_⟩)
     refine zBl rfl ?_
     refine zAr zAb call32 rfl rfl rfl rfl (c32 c _ hm.cons.cons.cons.cons.cons.cons _ _ [noneA c.lots.length [lot]] (by simp [spoilsL, putL, outL]) (fun x hx _ => by simp only [List.mem_cons, List.not_mem_nil, or_false] at hx; rcases hx with rfl <;> simp [noneA, hoursA]) (zBd (i := 0) (rows := (arows [noneA c.lots.length [lot]])) rfl (fun row h => by obtain ⟨x, _, rfl⟩ := List.mem_map.1 h; rfl) rfl) gE) ?_
     rintro _ jt (⟨hee, rfl, g4⟩ | ⟨hee, cb, mm, M, rfl, hM, g4⟩)
     ·
      refine zAe (qn ⟨g4.tail.tail.tail, ?_⟩)
      refine d_w rfl (fun _ => zAi (v := .tuple _) rfl rfl) rfl ?_
      refine d_w rfl (fun _ => zAh (v := .pointer _) rfl rfl rfl) rfl ?_
      refine d_w rfl (fun _ => zAh (v := .int _ _) rfl rfl rfl) rfl ?_
      replace g4 := (show St _ _ (_ :: _ :: _ :: _ :: _ :: _ :: F) from g4)
      refine zBm rfl ?_
      refine zAs (i := 1) (v := .pointer _) (vs := [_]) zAb sizeOf69 rfl rfl rfl rfl rfl (by simp [Value.oneCell']) g4 rfl (zNl rfl) (fun ju gW => ?_)
      refine zAe (qn ?_)
      refine d_w rfl (fun _ => zA2 rfl rfl) rfl ?_
      refine zBh ?_
      refine zAd (g0 _ _ (Md.intro (by repeat (first | exact zAz | exact zA5 | refine zA4 rfl ?_ | refine zAw rfl ?_ _ | refine zAt rfl ?_)) ?_))
      have gm := gW.tail.tail.tail
      replace gm := (show St _ _ (_ :: _ :: _ :: F) from gm)
      exact ⟨_, .inl ⟨hee, rfl, gm⟩⟩
     replace g4 := (show St _ _ (M ++ (_ :: _ :: _ :: _ :: _ :: _ :: _ :: F)) from g4)
     refine zAe (qn ⟨g4.drop.tail.tail.tail.tail, ?_⟩)
     refine d_w rfl (fun _ => zAi (v := .tuple _) rfl rfl) rfl ?_
     refine d_w rfl (fun _ => zAh (v := .pointer _) rfl rfl rfl) rfl ?_
     refine d_w rfl (fun _ => zAh (v := .int _ _) rfl rfl rfl) rfl ?_
     have gn := (((((((g4.perm ((List.Perm.append_left M (zAa [_,_,_,_,_,_] [_] _)).trans (zAa M [_] _))).perm ((List.Perm.append_left [_] ((List.Perm.append_left M (zAa [_,_,_,_,_] [_] _)).trans (zAa M [_] _))).trans (zAa [_] [_] _))).perm ((List.Perm.append_left [_,_] ((List.Perm.append_left M (zAa [_,_,_,_] [_] _)).trans (zAa M [_] _))).trans (zAa [_,_] [_] _))).perm ((List.Perm.append_left [_,_,_] ((List.Perm.append_left M (zAa [_,_,_] [_] _)).trans (zAa M [_] _))).trans (zAa [_,_,_] [_] _))).perm ((List.Perm.append_left [_,_,_,_] ((List.Perm.append_left M (zAa [_,_] [_] _)).trans (zAa M [_] _))).trans (zAa [_,_,_,_] [_] _))).perm ((List.Perm.append_left [_,_,_,_,_] ((List.Perm.append_left M (zAa [_] [_] _)).trans (zAa M [_] _))).trans (zAa [_,_,_,_,_] [_] _))).perm ((List.Perm.append_left [_,_,_,_,_,_] (zAa M [_] _)).trans (zAa [_,_,_,_,_,_] [_] _)))
     replace gn := (show St _ _ (_ :: _ :: _ :: _ :: _ :: _ :: _ :: M ++ (F)) from gn)
     refine zBm rfl ?_
     refine zAs (i := 2) (v := .pointer _) (vs := [_]) zAb sizeOf69 rfl rfl rfl rfl rfl (by simp [Value.oneCell']) gn rfl (zNl rfl) (fun jv gX => ?_)
     refine zAe (qn ?_)
     refine d_w rfl (fun _ => zA2 rfl rfl) rfl ?_
     refine zBh ?_
     refine zAd (g0 _ _ (Md.intro (by repeat (first | exact zAz | exact zA5 | refine zA4 rfl ?_ | refine zAw rfl ?_ _ | refine zAt rfl ?_)) ?_))
     have go := ((gX.perm (zAa [_] [_] _)).tail.perm (zAa [_,_] [_] _)).tail
     replace go := (show St _ _ (_ :: _ :: _ :: _ :: _ :: M ++ (F)) from go)
     exact ⟨_, .inr ⟨hee, cb, mm, M, rfl, hM, go⟩⟩
    refine zA0 (cs := [_]) zAb zeroValue69 rfl gd (fun jw jx gF => ?_)
    refine zAe (qn ⟨gF.tail.tail, ?_⟩)
    refine zDg ?_
    refine zBl rfl ?_
    refine zAr zAb call39 rfl rfl rfl rfl (c39 _ (by omega) _ _ [_] (by simp) (zBd (i := 1) (rows := [[_]]) rfl (by simp) rfl) gF) ?_
    rintro _ jy ⟨rfl, gG⟩
    refine zAe (qn ⟨gG.tail.tail, ?_⟩)
    refine zBl rfl ?_
    refine zA3 (ps := [(0, _)]) (pv := [(0, .agg #[.bool _, .int _ _])]) (cs := [_,_]) zAb rfl rfl (fun w => zFb _ _ w) gG (fun jz jA gH => ?_)
    refine zAe (qn ⟨gH.tail.tail.tail, ?_⟩)
    refine zBl rfl ?_
    refine zAr zAb call32 rfl rfl rfl rfl (c32 c _ hm.cons.cons.cons.cons.cons.cons _ _ [noneA c.lots.length [lot]] (by simp [spoilsL, putL, outL]) (fun x hx _ => by simp only [List.mem_cons, List.not_mem_nil, or_false] at hx; rcases hx with rfl <;> simp [noneA, hoursA]) (zBd (i := 0) (rows := (arows [noneA c.lots.length [lot]])) rfl (fun row h => by obtain ⟨x, _, rfl⟩ := List.mem_map.1 h; rfl) rfl) gH) ?_
    rintro _ jB (⟨hee, rfl, g5⟩ | ⟨hee, cb, mm, M, rfl, hM, g5⟩)
    ·
     refine zAe (qn ⟨g5.tail.tail.tail, ?_⟩)
     refine d_w rfl (fun _ => zAi (v := .tuple _) rfl rfl) rfl ?_
     refine d_w rfl (fun _ => zAh (v := .pointer _) rfl rfl rfl) rfl ?_
     refine d_w rfl (fun _ => zAh (v := .int _ _) rfl rfl rfl) rfl ?_
     replace g5 := (show St _ _ (_ :: _ :: _ :: _ :: _ :: _ :: F) from g5)
     refine zBm rfl ?_
     refine zAs (i := 1) (v := .pointer _) (vs := [_]) zAb sizeOf69 rfl rfl rfl rfl rfl (by simp [Value.oneCell']) g5 rfl (zNl rfl) (fun jC gY => ?_)
     refine zAe (qn ?_)
     refine d_w rfl (fun _ => zA2 rfl rfl) rfl ?_
     refine zBh ?_
     refine zAd (g0 _ _ (Md.intro (by repeat (first | exact zAz | exact zA5 | refine zA4 rfl ?_ | refine zAw rfl ?_ _ | refine zAt rfl ?_)) ?_))
     have gp := gY.tail.tail.tail
     replace gp := (show St _ _ (_ :: _ :: _ :: F) from gp)
     exact ⟨_, .inl ⟨hee, rfl, gp⟩⟩
    replace g5 := (show St _ _ (M ++ (_ :: _ :: _ :: _ :: _ :: _ :: _ :: F)) from g5)
    refine zAe (qn ⟨g5.drop.tail.tail.tail.tail, ?_⟩)
    refine d_w rfl (fun _ => zAi (v := .tuple _) rfl rfl) rfl ?_
    refine d_w rfl (fun _ => zAh (v := .pointer _) rfl rfl rfl) rfl ?_
    refine d_w rfl (fun _ => zAh (v := .int _ _) rfl rfl rfl) rfl ?_
    have gq := (((((((g5.perm ((List.Perm.append_left M (zAa [_,_,_,_,_,_] [_] _)).trans (zAa M [_] _))).perm ((List.Perm.append_left [_] ((List.Perm.append_left M (zAa [_,_,_,_,_] [_] _)).trans (zAa M [_] _))).trans (zAa [_] [_] _))).perm ((List.Perm.append_left [_,_] ((List.Perm.append_left M (zAa [_,_,_,_] [_] _)).trans (zAa M [_] _))).trans (zAa [_,_] [_] _))).perm ((List.Perm.append_left [_,_,_] ((List.Perm.append_left M (zAa [_,_,_] [_] _)).trans (zAa M [_] _))).trans (zAa [_,_,_] [_] _))).perm ((List.Perm.append_left [_,_,_,_] ((List.Perm.append_left M (zAa [_,_] [_] _)).trans (zAa M [_] _))).trans (zAa [_,_,_,_] [_] _))).perm ((List.Perm.append_left [_,_,_,_,_] ((List.Perm.append_left M (zAa [_] [_] _)).trans (zAa M [_] _))).trans (zAa [_,_,_,_,_] [_] _))).perm ((List.Perm.append_left [_,_,_,_,_,_] (zAa M [_] _)).trans (zAa [_,_,_,_,_,_] [_] _)))
    replace gq := (show St _ _ (_ :: _ :: _ :: _ :: _ :: _ :: _ :: M ++ (F)) from gq)
    refine zBm rfl ?_
    refine zAs (i := 2) (v := .pointer _) (vs := [_]) zAb sizeOf69 rfl rfl rfl rfl rfl (by simp [Value.oneCell']) gq rfl (zNl rfl) (fun jD gZ => ?_)
    refine zAe (qn ?_)
    refine d_w rfl (fun _ => zA2 rfl rfl) rfl ?_
    refine zBh ?_
    refine zAd (g0 _ _ (Md.intro (by repeat (first | exact zAz | exact zA5 | refine zA4 rfl ?_ | refine zAw rfl ?_ _ | refine zAt rfl ?_)) ?_))
    have gr := ((gZ.perm (zAa [_] [_] _)).tail.perm (zAa [_,_] [_] _)).tail
    replace gr := (show St _ _ (_ :: _ :: _ :: _ :: _ :: M ++ (F)) from gr)
    exact ⟨_, .inr ⟨hee, cb, mm, M, rfl, hM, gr⟩⟩
   refine zA0 (cs := [_]) zAb zeroValue69 rfl g8 (fun jE jF gI => ?_)
   refine zAe (qn ⟨gI.tail, ?_⟩)
   refine zDg ?_
   refine zBl rfl ?_
   refine zA3 (ps := [(0, _)]) (pv := [(0, .int _ _)]) (cs := [_]) zAb rfl rfl (fun w => zGc _ w) gI (fun jG jH gJ => ?_)
   refine zAe (qn ⟨gJ.tail.tail, ?_⟩)
   refine zBl rfl ?_
   refine zAr zAb call39 rfl rfl rfl rfl (c39 _ (by omega) _ _ [_] (by simp) (zBd (i := 0) (rows := [[_]]) rfl (by simp) rfl) gJ) ?_
   rintro _ jI ⟨rfl, gK⟩
   refine zAe (qn ⟨gK.tail.tail, ?_⟩)
   refine zBl rfl ?_
   refine zA3 (ps := [(0, _)]) (pv := [(0, .agg #[.bool _, .int _ _])]) (cs := [_,_]) zAb rfl rfl (fun w => zFb _ _ w) gK (fun jJ jK gL => ?_)
   refine zAe (qn ⟨gL.tail.tail.tail, ?_⟩)
   refine zBl rfl ?_
   refine zAr zAb call32 rfl rfl rfl rfl (c32 c _ hm.cons.cons.cons.cons.cons.cons _ _ [noneA c.lots.length [lot]] (by simp [spoilsL, putL, outL]) (fun x hx _ => by simp only [List.mem_cons, List.not_mem_nil, or_false] at hx; rcases hx with rfl <;> simp [noneA, hoursA]) (zBd (i := 0) (rows := (arows [noneA c.lots.length [lot]])) rfl (fun row h => by obtain ⟨x, _, rfl⟩ := List.mem_map.1 h; rfl) rfl) gL) ?_
   rintro _ jL (⟨hee, rfl, g6⟩ | ⟨hee, cb, mm, M, rfl, hM, g6⟩)
   ·
    refine zAe (qn ⟨g6.tail.tail.tail, ?_⟩)
    refine d_w rfl (fun _ => zAi (v := .tuple _) rfl rfl) rfl ?_
    refine d_w rfl (fun _ => zAh (v := .pointer _) rfl rfl rfl) rfl ?_
    refine d_w rfl (fun _ => zAh (v := .int _ _) rfl rfl rfl) rfl ?_
    replace g6 := (show St _ _ (_ :: _ :: _ :: _ :: _ :: _ :: F) from g6)
    refine zBm rfl ?_
    refine zAs (i := 2) (v := .pointer _) (vs := [_]) zAb sizeOf69 rfl rfl rfl rfl rfl (by simp [Value.oneCell']) g6 rfl (zNl rfl) (fun jM hD => ?_)
    refine zAe (qn ?_)
    refine d_w rfl (fun _ => zA2 rfl rfl) rfl ?_
    refine zBh ?_
    refine zAd (g0 _ _ (Md.intro (by repeat (first | exact zAz | exact zA5 | refine zA4 rfl ?_ | refine zAw rfl ?_ _ | refine zAt rfl ?_)) ?_))
    have gt := hD.tail.tail.tail
    replace gt := (show St _ _ (_ :: _ :: _ :: F) from gt)
    exact ⟨_, .inl ⟨hee, rfl, gt⟩⟩
   replace g6 := (show St _ _ (M ++ (_ :: _ :: _ :: _ :: _ :: _ :: _ :: F)) from g6)
   refine zAe (qn ⟨g6.drop.tail.tail.tail.tail, ?_⟩)
   refine d_w rfl (fun _ => zAi (v := .tuple _) rfl rfl) rfl ?_
   refine d_w rfl (fun _ => zAh (v := .pointer _) rfl rfl rfl) rfl ?_
   refine d_w rfl (fun _ => zAh (v := .int _ _) rfl rfl rfl) rfl ?_
   have gu := (((((((g6.perm ((List.Perm.append_left M (zAa [_,_,_,_,_,_] [_] _)).trans (zAa M [_] _))).perm ((List.Perm.append_left [_] ((List.Perm.append_left M (zAa [_,_,_,_,_] [_] _)).trans (zAa M [_] _))).trans (zAa [_] [_] _))).perm ((List.Perm.append_left [_,_] ((List.Perm.append_left M (zAa [_,_,_,_] [_] _)).trans (zAa M [_] _))).trans (zAa [_,_] [_] _))).perm ((List.Perm.append_left [_,_,_] ((List.Perm.append_left M (zAa [_,_,_] [_] _)).trans (zAa M [_] _))).trans (zAa [_,_,_] [_] _))).perm ((List.Perm.append_left [_,_,_,_] ((List.Perm.append_left M (zAa [_,_] [_] _)).trans (zAa M [_] _))).trans (zAa [_,_,_,_] [_] _))).perm ((List.Perm.append_left [_,_,_,_,_] ((List.Perm.append_left M (zAa [_] [_] _)).trans (zAa M [_] _))).trans (zAa [_,_,_,_,_] [_] _))).perm ((List.Perm.append_left [_,_,_,_,_,_] (zAa M [_] _)).trans (zAa [_,_,_,_,_,_] [_] _)))
   replace gu := (show St _ _ (_ :: _ :: _ :: _ :: _ :: _ :: _ :: M ++ (F)) from gu)
   refine zBm rfl ?_
   refine zAs (i := 3) (v := .pointer _) (vs := [_]) zAb sizeOf69 rfl rfl rfl rfl rfl (by simp [Value.oneCell']) gu rfl (zNl rfl) (fun jN hG => ?_)
   refine zAe (qn ?_)
   refine d_w rfl (fun _ => zA2 rfl rfl) rfl ?_
   refine zBh ?_
   refine zAd (g0 _ _ (Md.intro (by repeat (first | exact zAz | exact zA5 | refine zA4 rfl ?_ | refine zAw rfl ?_ _ | refine zAt rfl ?_)) ?_))
   have gv := ((hG.perm (zAa [_] [_] _)).tail.perm (zAa [_] [_] _)).tail
   replace gv := (show St _ _ (_ :: _ :: _ :: _ :: _ :: M ++ (F)) from gv)
   exact ⟨_, .inr ⟨hee, cb, mm, M, rfl, hM, gv⟩⟩
  intro vs μ jO hM
  clear hs
  obtain ⟨bc, hM⟩ := hM
  rcases hM with hM | hM
  ·
   obtain ⟨hee, rfl, hs⟩ := hM
   refine zAd (gA _ _ (zAg (fun jP jQ => (zAg (fun jR hH => (zAc (zBe rfl rfl (w_p (zCv rfl rfl rfl rfl) rfl (zAe (zAd (hH _ _ (zA1 rfl rfl (fun gc => ?_) (fun gc => ?_)))))))))))))
   ·
    try simp only [zS] at gc
    refine zAg (fun jS hN => (zAc (w_p (zA9 (vs := [_,_]) isAgg23 sizeOf23 hs rfl rfl (zAl (i := 0) (vs := [_,_]) rfl rfl)) rfl (zBe rfl rfl (zAs (i := 0) (v := .agg #[.int _ _, .int _ _]) (vs := [_,_]) zAb sizeOf23 rfl rfl rfl rfl rfl (by simp [Value.oneCell']) hs rfl (zNl rfl) (fun jT gM => ?_))))))
    refine zBj rfl rfl (zBs rfl rfl (zAe (zAd (hN _ _ (zA7 (zAm (zBa (l := [.cell 4 23, .tmp 5, .tmp 6]) (vs := [_,_,_]) rfl ⟨⟨rfl, _, rfl, zCo (vs := [_,_]) isAgg23 sizeOf23 gM (zAl (i := 0) (vs := [_,_]) rfl rfl)⟩, ⟨rfl, (rfl : _ = Value.int _ _)⟩, ⟨rfl, (rfl : _ = Value.int _ _)⟩, trivial⟩ ?_)))))))
    exact ⟨by rw [turnsP_e hee]; rfl, gM.tail.tail.tail⟩
   exfalso
   try simp only [zS] at gc
   exact hee gc
  obtain ⟨hee, cb, mm, M, rfl, hM, hs⟩ := hM
  have hew := zE8 (fun x hx _ => by simp only [List.mem_cons, List.not_mem_nil, or_false] at hx; rcases hx with rfl <;> simp [noneA, hoursA]) hee
  have hok := check_ok hew.1
  have hlo := hok.ll
  have hle2 := hok.le
  have hlh2 := hok.lh
  refine zAd (gA _ _ (zAg (fun jU hO => (zAg (fun jV hP => (zAc (zBe rfl rfl (w_p (zCv rfl rfl rfl rfl) rfl (zAe (zAd (hP _ _ (zB7 rfl rfl ?_))))))))))))
  refine zAx (zAd (hO _ _ (zAg (fun jW hX => (zAc (zA0 (cs := [_]) zAb zeroValue4 rfl hs (fun gw jX hY => ?_)))))))
  refine zAs (i := 0) (v := .bool _) (vs := [_]) zAb sizeOf4 rfl rfl rfl rfl rfl (by simp [Value.oneCell']) hY rfl (zNl rfl) (fun jY j0 => ?_)
  refine zAe (zAd (hX _ _ (zAg (fun jZ j1 => ?_))))
  have gx := (((((((j0.perm (zAa [_,_,_,_,_,_] M _)).perm ((List.Perm.append_left M (zAa [_,_,_,_,_] [_] _)).trans (zAa M [_] _))).perm ((List.Perm.append_left [_] ((List.Perm.append_left M (zAa [_,_,_,_] [_] _)).trans (zAa M [_] _))).trans (zAa [_] [_] _))).perm ((List.Perm.append_left [_,_] ((List.Perm.append_left M (zAa [_,_] [_] _)).trans (zAa M [_] _))).trans (zAa [_,_] [_] _))).perm ((List.Perm.append_left [_,_,_] ((List.Perm.append_left M (zAa [_] [_] _)).trans (zAa M [_] _))).trans (zAa [_,_,_] [_] _))).perm ((List.Perm.append_left [_,_,_,_] ((List.Perm.append_left M (zAa [_] [_] _)).trans (zAa M [_] _))).trans (zAa [_,_,_,_] [_] _))).perm ((List.Perm.append_left [_,_,_,_,_] (zAa M [_] _)).trans (zAa [_,_,_,_,_] [_] _)))
  replace gx := (show St _ _ (_ :: _ :: _ :: _ :: _ :: _ :: M ++ (F)) from gx)
  obtain ⟨n, rfl⟩ : ∃ n : Nat, lot = (n : Int) := ⟨lot.toNat, by have := zFi (any_1 hew.2.1) lot (by simp); omega⟩
  have hnl : n < c.lots.length := by have := zFi (any_1 hew.2.1) (n : Int) (by simp); omega
  have hlk := hok.lot _ (List.getElem_mem hnl)
  have hhe : c.lots[n].hold = ((holdOf c n : Nat) : Int) := by unfold holdOf; rw [zD1 hnl]; exact (Int.toNat_of_nonneg hlk.hold.1).symm
  have hhl : holdOf c n < c.holds.length := by have := hlk.hold; omega
  obtain ⟨bx, ox, hbx, hx⟩ := zDy hm.l hnl
  refine w_drawD (C0 := fun w => St w0 w _) (C := fun w => ∃ x8 x4 M, Memo c mm M ∧ St w0 w ((gw, x8) :: (b9, x4) :: (cb, blk 132 [.slice p.ae c.heat.length p.ce, .int .i64 c.gas, .slice p.ah c.holds.length p.ch, .slice p.al c.lots.length p.cl, .slice p.an c.seen.length p.cn, .int .i64 ((0 : Nat) : Int), .map (some mm)]) :: (bc, blk 69 [.pointer (some ⟨cb, 0, none⟩)]) :: (b6, blk 3 [.int .i64 (n : Int)]) :: (b3, blk 42 (c.cells p)) :: (M ++ F))) [] [(0,1),(1,0),(2,1),(3,1),(4,0),(5,0),(6,1),(7,0),(8,0),(9,2),(10,0)] zB0 (zB5 (by kernel_rfl)) gx (fun _ h => ⟨_, _,_, hM, h⟩) (fun _ h => h.drew) (fun k4 g9 => ?_)
  refine zCn rfl zAb rfl ⟨_, _,_, hM, g9⟩ (fun _ ⟨x8, x4, M, hM, hq⟩ => (zAk isAgg69 hq rfl rfl (zAl (i := 3) (vs := [_]) rfl rfl))) ?_
  refine d_w rfl (fun _ => zAf (o := 3) (i := 3) underlying42 rfl sizeOf39 rfl rfl rfl) rfl ?_
  refine zCn rfl zAb rfl ⟨_, _,_, hM, g9⟩ (fun _ ⟨x8, x4, M, hM, hq⟩ => (zFd hbx (zAk isAgg39 hq rfl rfl (zAl (i := 5) (vs := [_]) rfl rfl)))) ?_
  refine zCn rfl zAb rfl ⟨_, _,_, hM, g9⟩ (fun _ ⟨x8, x4, M, hM, hq⟩ => (zAk isAgg3 hq rfl rfl (zAl (i := 4) (vs := [_]) rfl rfl))) ?_
  refine d_w rfl (fun _ => zBk underlying39 sizeOf38 rfl rfl rfl rfl (i := n) rfl hnl) rfl ?_
  refine d_w rfl (fun _ => zAf (o := 0) (i := 0) underlying38 rfl sizeOf3 rfl rfl rfl) rfl ?_
  refine zCn rfl zAb rfl ⟨_, _,_, hM, g9⟩ (fun _ ⟨x8, x4, M, hM, hq⟩ => (zAk isAgg3 hq.tail.tail.tail.tail.tail.tail.drop rfl rfl (show Ats _ _ _ _ [_] from Ats.part hx 0 1))) ?_
  refine d_w rfl (fun _ => zCa (fv := []) (cv := [_,_,_,_]) rfl rfl rfl rfl) rfl ?_
  refine d_w rfl (fun _ => zBx (ps := [(0, _)]) (pv := [(0, .func _ _ _)]) rfl rfl (fun w => Try_UJ_fb3 _ _ _ w)) rfl ?_
  have gy := (((((((g9.perm (zAa [_,_,_,_,_] [_] _)).perm (zAa [_,_,_,_,_] [_] _)).perm (zAa [_,_,_,_,_] [_] _)).perm (zAa [_,_,_,_,_] [_] _)).perm (zAa [_,_,_,_,_,_] M _)).perm ((List.Perm.append_left M (zAa [_,_,_,_,_] [_] _)).trans (zAa M [_] _))).perm ((List.Perm.append_left [_] ((List.Perm.append_left M (zAa [_,_,_,_] [_] _)).trans (zAa M [_] _))).trans (zAa [_] [_] _)))
  replace gy := (show St _ _ (_ :: _ :: M ++ (_ :: _ :: _ :: _ :: F)) from gy)
  refine zBl rfl ?_
  refine zAr zAb call34 rfl rfl rfl rfl ((by have h := c34 (X := []) (B := [_,_]) (M := M) (F := (cb, blk 132 [.slice p.ae c.heat.length p.ce, .int .i64 c.gas, .slice p.ah c.holds.length p.ch, .slice p.al c.lots.length p.cl, .slice p.an c.seen.length p.cn, .int .i64 ((0 : Nat) : Int), .map (some mm)]) :: _ :: _ :: _ :: F) c p cb mm ⟨hm.cons.cons.cons.cons, zAl (i := 0) rfl rfl, hok.t, by omega⟩ hok (holdOf c n) hhl 40 #[] #[.pointer (some ⟨b6,0, none⟩), .pointer (some ⟨bc, 0, none⟩), .pointer (some ⟨gw,0, none⟩), .pointer (some ⟨b9,0, none⟩)] (turnsQ c n) (fun i B => B = [(gw, blk 4 [.bool (turnsA c n ((truths c 0 (holdOf c n)).take i)).2]), (b9, blk 23 [.int .i64 (turnsA c n ((truths c 0 (holdOf c n)).take i)).1.1, .int .i64 (turnsA c n ((truths c 0 (holdOf c n)).take i)).1.2])]) (turns_qis c p cb mm ⟨hm.cons.cons.cons.cons, zAl (i := 0) rfl rfl, hok.t, by omega⟩ hok (holdOf c n) hhl n (by omega) _ _ _ _ (zAl (i := 2) (vs := [_]) rfl rfl) (zAl (i := 1) (vs := [_]) rfl rfl)) rfl hM gy; rw [← hhe] at h; exact h)) ?_
  rintro _ k5 ⟨rfl, B1, M143, hJ1, j2, gz⟩
  subst hJ1
  replace gz := (show St _ _ (_ :: _ :: M143 ++ (_ :: _ :: _ :: _ :: F)) from gz)
  have ga := (((((((gz.perm (zAa [_,_] M143 _)).perm ((List.Perm.append_left M143 (zAa [_,_,_,_,_] [_] _)).trans (zAa M143 [_] _))).perm ((List.Perm.append_left [_] ((List.Perm.append_left M143 (zAa [_,_,_,_] [_] _)).trans (zAa M143 [_] _))).trans (zAa [_] [_] _))).perm ((List.Perm.append_left [_,_] ((List.Perm.append_left M143 (zAa [_,_,_] [_] _)).trans (zAa M143 [_] _))).trans (zAa [_,_] [_] _))).perm ((List.Perm.append_left [_,_,_] ((List.Perm.append_left M143 (zAa [_,_] [_] _)).trans (zAa M143 [_] _))).trans (zAa [_,_,_] [_] _))).perm ((List.Perm.append_left [_,_,_,_] ((List.Perm.append_left M143 (zAa [_] [_] _)).trans (zAa M143 [_] _))).trans (zAa [_,_,_,_] [_] _))).perm ((List.Perm.append_left [_,_,_,_,_] (zAa M143 [_] _)).trans (zAa [_,_,_,_,_] [_] _)))
  replace ga := (show St _ _ (_ :: _ :: _ :: _ :: _ :: _ :: M143 ++ (F)) from ga)
  refine zAe (qn ⟨⟨_, _,_, j2, ga⟩, ?_⟩)
  refine d_w rfl (fun _ => zA2 rfl rfl) rfl ?_
  refine zBh ?_
  refine zAd (j1 _ _ (zAg (fun k6 j3 => (zAc (w_p (zA9 (vs := [_,_]) isAgg23 sizeOf23 ga rfl rfl (zAl (i := 1) (vs := [_,_]) rfl rfl)) rfl (zBe rfl rfl (zAs (i := 1) (v := .agg #[.int _ _, .int _ _]) (vs := [_,_]) zAb sizeOf23 rfl rfl rfl rfl rfl (by simp [Value.oneCell']) ga rfl (zNl rfl) (fun k7 gN => ?_))))))))
  refine zBs rfl rfl (zBj rfl rfl (zAe (zAd (j3 _ _ (zA7 (zBa (l := [.cell 4 23, .tmp 5, .tmp 6]) (vs := [_,_,_]) rfl ⟨⟨rfl, _, rfl, zCo (vs := [_,_]) isAgg23 sizeOf23 gN (zAl (i := 1) (vs := [_,_]) rfl rfl)⟩, ⟨rfl, (rfl : _ = Value.int _ _)⟩, ⟨rfl, (rfl : _ = Value.int _ _)⟩, trivial⟩ ?_))))))
  exact ⟨by rw [turnsP_y hee, List.take_length]; rfl, gN.tail.tail.tail.tail.tail.tail.drop⟩

theorem c35 {w0 w : World} {F : List (Nat × Obj)} (c : Cargo) (n : Nat) (hn5 : n < 5) (hour : Int) (b7 b3 : Nat) (h7 : Ats w0 F b7 0 [.int .i64 (n : Int)]) (h3 : Ats w0 F b3 0 [.int .i64 hour]) (s : List Int) (hls : s.length = 8) (hs : St w0 w F) :
  Con Tryz.prog 35 [ia s, ia (times c s), .pointer (some ⟨b7,0, none⟩), .pointer (some ⟨b3,0, none⟩)] w fun v w' => v = .bool (safeQ c hour n s) ∧ St w0 w' F := by
  refine zAu (n := 12) func35 rfl rfl (zNl rfl) ?_
  have htl := zBf c s
  refine zAg (fun K2 g3 => (zAc (zDu (l := _) zAb rfl rfl rfl hs (fun b3 w4 g4 => ?_))))
  refine zDu (l := _) zAb rfl rfl rfl g4 (fun b6 w7 g5 => ?_)
  refine zBj rfl rfl (zAe (zAd (g3 _ _ (zAg (fun g7 g6 => (zCe [] [(0,1),(1,0),(2,1),(3,1),(4,0),(5,0)] zB0 (zB5 (by kernel_rfl)) g5 (fun g8 g0 => ?_)))))))
  refine zBb rfl zAb rfl g0 (fun _ hq => (zAk isAgg3 hq.tail.tail rfl rfl h7)) ?_
  refine d_w rfl (fun _ => zCb underlying77 sizeOf3 rfl rfl rfl rfl (i := n) (by first | rfl | omega) (by omega)) rfl ?_
  refine zBb rfl zAb rfl g0 (fun _ hq => (zAk isAgg3 hq rfl rfl (zCy (i := 0) (j := n) rfl (by first | omega | rfl | (simp only [hls, zBf, zL] <;> omega))))) ?_
  refine zBb rfl zAb rfl g0 (fun _ hq => (zAk isAgg3 hq.tail.tail rfl rfl h3)) ?_
  refine d_w rfl (fun _ => zEt rfl rfl rfl rfl) rfl ?_
  refine d_w rfl (fun _ => zAo (v := .bool _) rfl rfl) rfl ?_
  refine zBh ?_
  refine zAd (g6 _ _ (zA7 (zBa (l := [.tmp 6]) (vs := [_]) rfl ⟨⟨rfl, (rfl : _ = Value.bool _)⟩, trivial⟩ ?_)))
  exact ⟨rfl, g0.tail.tail⟩

theorem safe_qis {w0 : World} {F : List (Nat × Obj)} (c : Cargo) (mm : Nat) (hco : c.Ok) (hold : Nat) (hh : hold < c.holds.length) (n : Nat) (hn5 : n < 5) (hour : Int) (b7 b3 : Nat) (h7 : Ats w0 F b7 0 [.int .i64 (n : Int)]) (h3 : Ats w0 F b3 0 [.int .i64 hour]) : QIs w0 F c mm hold (.func (.func 35) #[] #[.pointer (some ⟨b7,0, none⟩), .pointer (some ⟨b3,0, none⟩)]) (safeQ c hour n) (fun i B => B = []) := by
  intro i hi B M X w hB hM hs
  subst hB
  refine (zDw call35 (c35 (F := X ++ (M ++ F)) c n hn5 hour b7 b3 h7.app.app h3.app.app _ (zDz hco hh (List.getElem_mem hi)).1.len hs)).mono ?_
  rintro v w' ⟨rfl, g0⟩
  exact ⟨rfl, [], M, rfl, hM, g0⟩
theorem c8 {w0 w : World} {F : List (Nat × Obj)} (c : Cargo) (p : AtT) (hm : TIn w0 F c p) (hour : Int) (hs : St w0 w F) :
  Con Tryz.prog 8 [.agg (c.cells p).toArray, .int .i64 hour] w fun v w' => ∃ B a c', v = .tuple #[.slice a (safeP c hour).1.length c', .int .i64 (safeP c hour).2] ∧ Sl w0 B a 1 ((safeP c hour).1.map fun x => [Value.int .i64 x]) ∧ St w0 w' (B ++ F) := by
  refine zAu (n := 49) func8 rfl rfl (zNl rfl) ?_
  have hll0 := hm.ll
  refine zAg (fun K2 gq => (zAc (zCj (v := .agg #[.slice _ _ _, .int _ _, .slice _ _ _, .slice _ _ _, .slice _ _ _]) (cs := [_,_,_,_,_]) zAb rfl rfl rfl hs (fun b3 w4 gr => ?_))))
  refine zCj (v := .int _ _) (cs := [_]) zAb rfl rfl rfl gr (fun b6 w7 gt => ?_)
  refine zBj rfl rfl (zBj rfl rfl (zAe (zAd (gq _ _ (zAg (fun gL gj => (zCe [] [(0,1),(1,1),(2,1),(3,2),(4,2),(5,2),(6,2),(7,0),(8,0),(9,0),(10,0),(11,0)] zB0 (zB5 (by kernel_rfl)) gt (fun gM g5 => ?_))))))))
  refine zBb rfl zAb rfl g5 (fun _ hq => (zA9 (vs := [_,_,_,_,_]) isAgg42 sizeOf42 hq rfl rfl (zAl (i := 1) (vs := [_,_,_,_,_]) rfl rfl))) ?_
  refine zBb rfl zAb rfl g5 (fun _ hq => (zA9 (vs := [_,_,_,_,_]) isAgg42 sizeOf42 hq rfl rfl (zAl (i := 1) (vs := [_,_,_,_,_]) rfl rfl))) ?_
  refine zBb rfl zAb rfl g5 (fun _ hq => (zAk isAgg3 hq rfl rfl (zAl (i := 0) (vs := [_]) rfl rfl))) ?_
  refine zBl rfl ?_
  refine zA3 (ps := [(0, _)]) (pv := [(0, .int _ _)]) (cs := [_]) zAb rfl rfl (fun w => zGc _ w) g5 (fun gN gO gk => ?_)
  refine zAe (qn ⟨gk.tail, ?_⟩)
  refine zBl rfl ?_
  refine zAr zAb call33 rfl rfl rfl rfl (c33 c _ hm.cons.cons.cons _ _ [_] (by simp) (zBd (i := 0) (rows := [[_]]) rfl (by simp) rfl) gk) ?_
  rintro _ gP ⟨rfl, gl⟩
  refine zAe (qn ⟨gl.tail, ?_⟩)
  refine zBl rfl ?_
  refine zA3 (ps := [(0, _)]) (pv := [(0, .agg #[.bool _, .int _ _])]) (cs := [_,_]) zAb rfl rfl (fun w => zFb _ _ w) gl (fun gQ gR gm => ?_)
  refine zAe (qn ⟨gm.tail.tail, ?_⟩)
  refine zBl rfl ?_
  refine zAr zAb call32 rfl rfl rfl rfl (c32 c _ hm.cons.cons.cons.cons _ _ [hoursA c [hour]] (by simp [spoilsL, putL, outL]) (fun x hx _ => by simp only [List.mem_cons, List.not_mem_nil, or_false] at hx; rcases hx with rfl <;> simp [noneA, hoursA]) (zBd (i := 0) (rows := (arows [hoursA c [hour]])) rfl (fun row h => by obtain ⟨x, _, rfl⟩ := List.mem_map.1 h; rfl) rfl) gm) ?_
  rintro _ gS (⟨hee, rfl, g0⟩ | ⟨hee, cb, mm, M, rfl, hM, g0⟩)
  ·
   refine zAe (qn ⟨g0.tail.tail, ?_⟩)
   refine d_w rfl (fun _ => zAi (v := .tuple _) rfl rfl) rfl ?_
   refine d_w rfl (fun _ => zAh (v := .pointer _) rfl rfl rfl) rfl ?_
   refine d_w rfl (fun _ => zAh (v := .int _ _) rfl rfl rfl) rfl ?_
   refine d_w rfl (fun _ => zAo (v := .pointer _) rfl rfl) rfl ?_
   refine d_w rfl (fun _ => zA2 rfl rfl) rfl ?_
   refine zBh ?_
   refine zAd (gj _ _ (zAg (fun gT gU => (zAg (fun gV gu => (zAc (zBe rfl rfl (w_p (zCv rfl rfl rfl rfl) rfl (zAe (zAd (gu _ _ (zA1 rfl rfl (fun g6 => ?_) (fun g6 => ?_)))))))))))))
   ·
    try simp only [zS] at g6
    refine zAg (fun gW gv => (zAc (zBe rfl rfl (zBj rfl rfl (zBs rfl rfl (zAe (zAd (gv _ _ (zA7 (zAm (zBa (l := [.tmp 4, .tmp 5]) (vs := [_,_]) rfl ⟨⟨rfl, show _ = (.slice _ _ _ : Value) from rfl⟩, ⟨rfl, (rfl : _ = Value.int _ _)⟩, trivial⟩ ?_)))))))))))
    exact ⟨[], none, 0, by rw [safeP_e hee]; rfl, by rw [safeP_e hee]; exact Sl.nil _ _, g0.tail.tail.tail.tail⟩
   exfalso
   try simp only [zS] at g6
   exact hee g6
  replace g0 := (show St _ _ (M ++ (_ :: _ :: _ :: _ :: _ :: F)) from g0)
  have hew := zE8 (fun x hx _ => by simp only [List.mem_cons, List.not_mem_nil, or_false] at hx; rcases hx with rfl <;> simp [noneA, hoursA]) hee
  have hok := check_ok hew.1
  have hlo := hok.ll
  have hle2 := hok.le
  have hlh2 := hok.lh
  refine zAe (qn ⟨g0.drop.tail.tail.tail, ?_⟩)
  refine d_w rfl (fun _ => zAi (v := .tuple _) rfl rfl) rfl ?_
  refine d_w rfl (fun _ => zAh (v := .pointer _) rfl rfl rfl) rfl ?_
  refine d_w rfl (fun _ => zAh (v := .int _ _) rfl rfl rfl) rfl ?_
  refine d_w rfl (fun _ => zAo (v := .pointer _) rfl rfl) rfl ?_
  refine d_w rfl (fun _ => zA2 rfl rfl) rfl ?_
  refine zBh ?_
  refine zAd (gj _ _ (zAg (fun gX gw => (zAg (fun gY gx => (zAc (zBe rfl rfl (w_p (zCv rfl rfl rfl rfl) rfl (zAe (zAd (gx _ _ (zB7 rfl rfl ?_))))))))))))
  refine zAx (zAd (gw _ _ (zAg (fun gZ gy => (zAg (fun hD gz => ?_))))))
  have g7 := (((((g0.perm ((List.Perm.append_left M (zAa [_] [_] _)).trans (zAa M [_] _))).tail.perm ((List.Perm.append_left M (zAa [_] [_] _)).trans (zAa M [_] _))).tail.perm ((List.Perm.append_left M (zAa [_,_] [_] _)).trans (zAa M [_] _))).perm ((List.Perm.append_left [_] ((List.Perm.append_left M (zAa [_] [_] _)).trans (zAa M [_] _))).trans (zAa [_] [_] _))).perm ((List.Perm.append_left [_,_] (zAa M [_] _)).trans (zAa [_,_] [_] _)))
  replace g7 := (show St _ _ (_ :: _ :: _ :: M ++ (F)) from g7)
  refine zAc (w_p (zAf (o := 3) (i := 3) underlying42 rfl sizeOf39 rfl rfl rfl) rfl (w_p (zAk isAgg39 g7 rfl rfl (zAl (i := 2) (vs := [_]) rfl rfl)) rfl (w_p (zBo underlying39 rfl rfl) rfl (w_p (zAi (v := _) rfl rfl) rfl ?_))))
  refine zAe (zAd (gz _ _ (zA8 ?_)))
  refine zCd [4,7,8,25,26,27,28,29,30,31,32,33,34,35,36,37,38,39,40,41,42,43,44,45,46,47] [4,25] (fun k vs w => ∃ (i : Nat) (v : Value) (B M : List (Nat × Obj)), vs = [v, .int .i64 i] ∧ i ≤ c.lots.length ∧ k = c.lots.length - i ∧ Rt.Own v 3 1 (safeTo c hour i).length (iv (safeTo c hour i)) B ∧ Memo c mm M ∧ St w0 w ((cb, blk 132 [.slice p.ae c.heat.length p.ce, .int .i64 c.gas, .slice p.ah c.holds.length p.ch, .slice p.al c.lots.length p.cl, .slice p.an c.seen.length p.cn, .int .i64 ((0 : Nat) : Int), .map (some mm)]) :: (b6, blk 3 [.int .i64 hour]) :: (b3, blk 42 (c.cells p)) :: (B ++ (M ++ F)))) (c.lots.length) ?_ ?_
  ·
   exact ⟨0, _, [], M, rfl, by omega, by omega, zE1 3 1, hM, g7⟩
  intro k vs μ hG hI hH g8
  clear hs hM
  obtain ⟨i, v, B, M, rfl, hia, rfl, hown, hM, hs⟩ := hI
  refine zAg (fun hN gA => (zAc (w_p (zCl rfl rfl rfl rfl) rfl (zAe (zAd (gA _ _ (zAg (fun hO gB => (zA1 rfl rfl (fun g9 => ?_) (fun g9 => ?_))))))))))
  ·
   try simp only [zS] at g9
   refine zAx (zAd (gB _ _ (zAg (fun hP ga => (zA8 ?_)))))
   refine zAg (fun hX gC => ?_)
   have hi2 : i < c.lots.length := by omega
   obtain ⟨bx, ox, hbx, hx⟩ := zDy hm.l hi2
   have hlk := hok.lot _ (List.getElem_mem hi2)
   have hhe : c.lots[i].hold = ((holdOf c i : Nat) : Int) := by unfold holdOf; rw [zD1 hi2]; exact (Int.toNat_of_nonneg hlk.hold.1).symm
   have hhl : holdOf c i < c.holds.length := by have := hlk.hold; omega
   have hsl := safe_len c hour i
   refine zAc (zBe rfl rfl (w_p (zBk underlying39 sizeOf38 rfl rfl (Eq.trans (show _ = Value.slice p.al c.lots.length p.cl from rfl) (by rw [hbx])) rfl (b := bx) (off := ox) (i := i) rfl hi2) rfl ?_))
   refine w_p (zA9 (vs := [_,_,_,_]) isAgg38 sizeOf38 hs.tail.tail.tail.drop.drop rfl rfl hx) rfl (zA0 (cs := [_]) zAb zeroValue3 rfl hs (fun gD hY gE => ?_))
   refine zA0 (cs := [_,_,_,_]) zAb zeroValue38 rfl gE (fun j0 j1 gF => ?_)
   refine zAs (i := 1) (v := .int _ _) (vs := [_]) zAb sizeOf3 rfl rfl rfl rfl rfl (by simp [Value.oneCell']) gF rfl (zNl rfl) (fun j2 gG => ?_)
   refine zAs (i := 0) (v := .agg #[.int _ _, .int _ _, .int _ _, .int _ _]) (vs := [_,_,_,_]) zAb sizeOf38 rfl rfl rfl rfl rfl (by simp [Value.oneCell']) gG rfl (zNl rfl) (fun j3 g3 => ?_)
   refine zAe (zAd (gC _ _ (zAg (fun j4 gn => (zAc (w_p (zAf (o := 1) (i := 1) underlying38 rfl sizeOf3 rfl rfl rfl) rfl (w_p (zAk isAgg3 g3 rfl rfl (zAl (i := 0) (vs := [_]) rfl rfl)) rfl ?_)))))))
   refine w_p (zAk isAgg3 g3 rfl rfl (zAl (i := 3) (vs := [_]) rfl rfl)) rfl (w_p (zGf rfl rfl rfl rfl) rfl (w_p (zAi (v := .bool _) rfl rfl) rfl (zBp (fun gb => ?_) (fun gb => ?_))))
   ·
    try simp only [zS] at gb
    refine w_y rfl rfl rfl (zAi (v := .pointer _) rfl rfl) rfl ?_
    refine w_y rfl rfl rfl (zAf (o := 0) (i := 0) underlying38 rfl sizeOf3 rfl rfl rfl) rfl ?_
    refine w_y rfl rfl rfl (zAk isAgg3 g3 rfl rfl (zAl (i := 0) (vs := [_]) rfl rfl)) rfl ?_
    refine w_y rfl rfl rfl (zCa (fv := []) (cv := [_,_]) rfl rfl rfl rfl) rfl ?_
    refine w_y rfl rfl rfl (zBx (ps := [(0, _)]) (pv := [(0, .func _ _ _)]) rfl rfl (fun w => Try_UJ_fb3 _ _ _ w)) rfl ?_
    have gc := (((((((g3.perm (zAa [_,_,_,_] [_] _)).perm (zAa [_,_,_,_] [_] _)).perm (zAa [_,_,_,_] [_] _)).perm (zAa [_,_,_,_] [_] _)).perm (zAa [_,_,_,_] [_] _)).perm ((List.Perm.append_left [_,_,_,_,_] (zAa B M _)).trans (zAa [_,_,_,_,_] M _))).perm ((List.Perm.append_left M (zAa [_,_,_,_,_] B _)).trans (zAa M B _)))
    replace gc := (show St _ _ (B ++ (M ++ (_ :: _ :: _ :: _ :: _ :: F))) from gc)
    refine zAr (zAp rfl rfl rfl) call34 rfl rfl rfl rfl ((by have h := c34 (X := B) (B := []) (M := M) (F := _ :: _ :: (cb, blk 132 [.slice p.ae c.heat.length p.ce, .int .i64 c.gas, .slice p.ah c.holds.length p.ch, .slice p.al c.lots.length p.cl, .slice p.an c.seen.length p.cn, .int .i64 ((0 : Nat) : Int), .map (some mm)]) :: _ :: _ :: F) c p cb mm ⟨hm.cons.cons.cons.cons.cons, zAl (i := 2) rfl rfl, hok.t, by omega⟩ hok (holdOf c i) hhl 35 #[] #[.pointer (some ⟨gD,0, none⟩), .pointer (some ⟨b6,0, none⟩)] (safeQ c hour i) (fun i B => B = []) (safe_qis c mm hok (holdOf c i) hhl i (by omega) hour _ _ (zAl (i := 1) (vs := [_]) rfl rfl) (zAl (i := 3) (vs := [_]) rfl rfl)) rfl hM gc; rw [← hhe] at h; exact h)) ?_
    rintro _ j5 ⟨rfl, B1, M70, hJ1, go, gd⟩
    subst hJ1
    replace gd := (show St _ _ (B ++ (M70 ++ (_ :: _ :: _ :: _ :: _ :: F))) from gd)
    have g4 := (((((((gd.perm (zAa B M70 _)).perm (zAa M70 B _)).perm ((List.Perm.append_left B ((List.Perm.append_left M70 (zAa [_,_,_,_] [_] _)).trans (zAa M70 [_] _))).trans (zAa B [_] _))).perm ((List.Perm.append_left [_] ((List.Perm.append_left B ((List.Perm.append_left M70 (zAa [_,_,_] [_] _)).trans (zAa M70 [_] _))).trans (zAa B [_] _))).trans (zAa [_] [_] _))).perm ((List.Perm.append_left [_,_] ((List.Perm.append_left B ((List.Perm.append_left M70 (zAa [_,_] [_] _)).trans (zAa M70 [_] _))).trans (zAa B [_] _))).trans (zAa [_,_] [_] _))).perm ((List.Perm.append_left [_,_,_] ((List.Perm.append_left B ((List.Perm.append_left M70 (zAa [_] [_] _)).trans (zAa M70 [_] _))).trans (zAa B [_] _))).trans (zAa [_,_,_] [_] _))).perm ((List.Perm.append_left [_,_,_,_] ((List.Perm.append_left B (zAa M70 [_] _)).trans (zAa B [_] _))).trans (zAa [_,_,_,_] [_] _)))
    replace g4 := (show St _ _ (_ :: _ :: _ :: _ :: _ :: B ++ (M70 ++ (F))) from g4)
    refine w_y rfl rfl rfl (zB3 rfl rfl rfl rfl) rfl ?_
    refine w_p (zAv (v := .bool _) rfl rfl rfl rfl) rfl (zAe (zAd (gn _ _ (zA1 rfl rfl (fun ge => ?_) (fun ge => ?_)))))
    ·
     try simp only [zS] at ge
     refine zAc (w_p (zAi (v := v) rfl rfl) rfl (w_p (zAk isAgg3 g4 rfl rfl (zAl (i := 1) (vs := [_]) rfl rfl)) rfl (zA3 (ps := [(0, _)]) (pv := [(0, .int _ _)]) (cs := [_]) zAb rfl rfl (fun w => zGc _ w) g4 (fun j6 j7 gH => ?_))))
     refine zEf (X := (_ :: _ :: _ :: _ :: _ :: _ :: [])) (B := B) (rows := [[_]]) (sz := 1) (bytes := 8) zAb underlying35 zEb rfl rfl rfl rfl rfl rfl rfl rfl rfl gH hown (zBd (i := 0) rfl (by simp) rfl) rfl (by simp) (by simp [Value.oneCell']) (by simp only [maxLen]; omega) (by omega) (fun gI j8 gp gJ gf => ?_)
     replace gf := (show St _ _ (_ :: _ :: _ :: _ :: _ :: _ :: gp ++ (M70 ++ (F))) from gf)
     refine w_p (zAo (v := gI) rfl rfl) rfl (zAe (zAn (zAd (ga _ _ (zAc (w_p (zBq rfl rfl rfl rfl (by omega) (by omega)) rfl (zBe rfl rfl (zAe (zAd (g8 _ _ (nxI (c.lots.length - (i + 1)) (by omega) ?_)))))))))))
     have gg := gf.tail.tail.tail
     replace gg := (show St _ _ (_ :: _ :: _ :: gp ++ (M70 ++ (F))) from gg)
     exact ⟨i + 1, _,_, M70, rfl, by omega, rfl, by rw [safe_yes hi2 (by assumption) (by assumption)]; exact zIa gJ, go, gg⟩
    try simp only [zS] at ge
    refine zAx (zAn (zAd (ga _ _ (zAc (w_p (zBq rfl rfl rfl rfl (by omega) (by omega)) rfl (zBe rfl rfl (zAe (zAd (g8 _ _ (nxI (c.lots.length - (i + 1)) (by omega) ?_))))))))))
    have gh := g4.tail.tail
    replace gh := (show St _ _ (_ :: _ :: _ :: B ++ (M70 ++ (F))) from gh)
    exact ⟨i + 1, v, B, M70, rfl, by omega, rfl, by rw [safe_no hi2 (by first | exact .inl (by omega) | exact .inr (by assumption))]; exact hown, go, gh⟩
   try simp only [zS] at gb
   refine zAj rfl rfl rfl ?_
   refine zAj rfl rfl rfl ?_
   refine zAj rfl rfl rfl ?_
   refine zAj rfl rfl rfl ?_
   refine zAj rfl rfl rfl ?_
   refine zAj rfl rfl rfl ?_
   refine zAj rfl rfl rfl ?_
   refine w_p (zBg (v := _) rfl rfl rfl rfl) rfl (zAe (zAd (gn _ _ (zB7 rfl rfl ?_))))
   refine zAx (zAn (zAd (ga _ _ (zAc (w_p (zBq rfl rfl rfl rfl (by omega) (by omega)) rfl (zBe rfl rfl (zAe (zAd (g8 _ _ (nxI (c.lots.length - (i + 1)) (by omega) ?_))))))))))
   have gi := g3.tail.tail
   replace gi := (show St _ _ (_ :: _ :: _ :: B ++ (M ++ (F))) from gi)
   exact ⟨i + 1, v, B, M, rfl, by omega, rfl, by rw [safe_no hi2 (by first | exact .inl (by omega) | exact .inr (by assumption))]; exact hown, hM, gi⟩
  try simp only [zS] at g9
  refine zBy (zAq (zAq (zBc (zAd (gy _ _ (zAg (fun j9 gK => (zAc (w_p (zAi (v := v) rfl rfl) rfl (w_p (zAo (v := v) rfl rfl) rfl ?_))))))))))
  refine zBj rfl rfl (zAe (zAd (gK _ _ (zA7 (zBa (l := [.tmp 4, .tmp 5]) (vs := [_,_]) rfl ⟨⟨rfl, show _ = (v : Value) from rfl⟩, ⟨rfl, (rfl : _ = Value.int _ _)⟩, trivial⟩ ?_)))))
  have hin : i = c.lots.length := by omega
  subst hin
  obtain ⟨a9, c9, rfl, hsl9, _⟩ := zG5 (w0 := w0) hown
  exact ⟨B, a9, c9, by rw [safeP_y hee]; rfl, by rw [safeP_y hee]; exact hsl9, kq_opq hs.tail.tail.tail⟩

end Go.Proofs.Ut
set_option maxRecDepth 20000
namespace Go.Proofs.Ut
open Go.Proofs.Tryz
open Go.Rt Go.Rt.Tu
open Go.Rt.Ha (firstE zCf zBu zB1 failE felt spanL upto zC1 listL fewest fewTo bit Bunch before fewStep zCm zDd zCc zCx zC6 zCw zB8)
attribute [local irreducible] WL WC Con Yd At Ats Sl Agree DW
theorem zHy (x0 : Int) (w : World) : (Instr.buildSlice 35 1 [(0, .int .i64 x0)].toArray).run Tryz.prog w = .ok (.slice (some ⟨w.heap.size, 0, none⟩) 1 1) (w.alloc (Go.Rt.blk 3 [.int .i64 x0])) := by kernel_rfl
theorem zGb (x0 : Bool) (x1 : Int) (w : World) : (Instr.buildSlice 121 1 [(0, .agg #[.bool x0, .int .i64 x1])].toArray).run Tryz.prog w = .ok (.slice (some ⟨w.heap.size, 0, none⟩) 1 1) (w.alloc (Go.Rt.blk 73 [.bool x0, .int .i64 x1])) := by kernel_rfl
theorem Try_UK_fb3 (x0 : Go.Fn) (a0 c0 : Array Value) (w : World) : (Instr.build 82 [(0, .func x0 a0 c0)].toArray).run Tryz.prog w = .ok (.agg #[.func x0 a0 c0]) w := by kernel_rfl
theorem Try_UK_fb4 (x0 : Bool) (x1 : Int) (w : World) : (Instr.build 73 [(0, .bool x0),(1, .int .i64 x1)].toArray).run Tryz.prog w = .ok (.agg #[.bool x0, .int .i64 x1]) w := by kernel_rfl
theorem Try_UK_fb5 (x0 : Int) (x1 : Int) (w : World) : (Instr.buildSlice 35 2 [(0, .int .i64 x0),(1, .int .i64 x1)].toArray).run Tryz.prog w = .ok (.slice (some ⟨w.heap.size, 0, none⟩) 2 2) (w.alloc (Go.Rt.blk 3 [.int .i64 x0, .int .i64 x1])) := by kernel_rfl
theorem zGa (x0 : Bool) (x1 : Int) (x2 : Bool) (x3 : Int) (w : World) : (Instr.buildSlice 121 2 [(0, .agg #[.bool x0, .int .i64 x1]),(1, .agg #[.bool x2, .int .i64 x3])].toArray).run Tryz.prog w = .ok (.slice (some ⟨w.heap.size, 0, none⟩) 2 2) (w.alloc (Go.Rt.blk 73 [.bool x0, .int .i64 x1, .bool x2, .int .i64 x3])) := by kernel_rfl
theorem c57 {w0 w : World} {F : List (Nat × Obj)} (aa : Option Addr) (l : List Int) (ca : Nat) (h0 : 0 < l.length) (hl : l.length ≤ 1000) (ha : Sl w0 F aa 1 (l.map fun x => [Value.int .i64 x])) (hs : St w0 w F) :
  Con Tryz.prog 57 [.slice aa l.length ca] w fun v w' => v = .int .i64 (minTo l (l.length - 1)) ∧ St w0 w' F := by
  refine zAu (n := 25) func57 rfl rfl (zNl rfl) ?_
  have hg : ∀ i (h : i < l.length), l[i] = l.getD i 0 := fun i h => by simp [List.getD, h]
  obtain ⟨b0, o0, rfl, hx0⟩ := zDv ha h0
  refine zAg (fun K2 g3 => (zAc (zBj rfl rfl (zAe (zAd (g3 _ _ (zAg (fun K4 g4 => (zAg (fun K6 g5 => (zAc (w_p (zAi (v := .slice _ _ _) rfl rfl) rfl ?_))))))))))))
  refine w_p (zBo underlying35 rfl rfl) rfl (w_p (zCl rfl rfl rfl rfl) rfl (zAe (zAd (g5 _ _ (zA1 rfl rfl (fun h7 => ?_) (fun h7 => ?_))))))
  ·
   exfalso
   try simp only [zS] at h7
   omega
  try simp only [zS] at h7
  refine zAx (zAd (g4 _ _ (zAg (fun K9 g6 => (zAc (w_p (zAi (v := .slice _ _ _) rfl rfl) rfl (w_p (zBk underlying35 sizeOf3 rfl rfl rfl rfl (i := 0) rfl (by omega)) rfl ?_)))))))
  refine w_p (zAk isAgg3 hs rfl rfl hx0) rfl (zBs rfl rfl (zAe (zAd (g6 _ _ (zAg (fun ge g7 => (zAg (fun gf g8 => (zAc (zBj rfl rfl (zAe (zAd (g8 _ _ (zA8 ?_))))))))))))))
  refine zCd [3,4,12,13,14,15,16,17,18,19,20,21,22,23] [3,4] (fun k vs w => ∃ i : Nat, vs = [.int .i64 (minTo l i), .int .i64 ((i : Int) + 1)] ∧ i + 1 ≤ l.length ∧ k = l.length - i ∧ St w0 w F) (l.length) ?_ ?_
  ·
   exact ⟨0, iv2 (hg 0 h0) rfl, by omega, by omega, hs⟩
  intro k vs μ gg hI gh g9
  obtain ⟨i, rfl, hia, rfl, hs⟩ := hI
  refine zAg (fun gi ga => (zAg (fun gj gb => (zAc (zBe rfl rfl (w_p (zAi (v := .slice _ _ _) rfl rfl) rfl (w_p (zBo underlying35 rfl rfl) rfl (w_p (zCl rfl rfl rfl rfl) rfl ?_))))))))
  refine zAe (zAd (gb _ _ (zA1 rfl rfl (fun g0 => ?_) (fun g0 => ?_))))
  ·
   try simp only [zS] at g0
   refine zAx (zAd (ga _ _ (zAg (fun gk gc => (zA8 ?_)))))
   have hi2 : i + 1 < l.length := by omega
   obtain ⟨b1, o1, hb1, hx1⟩ := zDv ha hi2
   cases hb1
   refine zAc (zBe rfl rfl (w_p (zAi (v := .slice _ _ _) rfl rfl) rfl (zBe rfl rfl (w_p (zBk underlying35 sizeOf3 rfl rfl rfl rfl (i := i + 1) (by omega) (by omega)) rfl (w_p (zAk isAgg3 hs rfl rfl hx1) rfl ?_)))))
   refine w_p (y_min2 rfl rfl rfl rfl) rfl (zBs rfl rfl (zAe (zAn (zAd (gc _ _ (zAc (zBe rfl rfl (w_p (zBq rfl rfl rfl rfl (by omega) (by omega)) rfl ?_))))))))
   refine zBs rfl rfl (zAe (zAd (g9 _ _ (nxI (l.length - (i + 1)) (by omega) ?_))))
   exact ⟨i + 1, iv2 (by rw [hg]; rfl) (by omega), by omega, rfl, hs⟩
  try simp only [zS] at g0
  refine zBy (zAq (zAq (zBc (zAd (g7 _ _ (zAg (fun gl gd => (zAc (zBe rfl rfl (zBs rfl rfl (zAe (zAd (gd _ _ (zA7 (zBa (l := [.tmp 2]) (vs := [_]) rfl ⟨⟨rfl, (rfl : _ = Value.int _ _)⟩, trivial⟩ ?_)))))))))))))))
  have hil : i = l.length - 1 := by omega
  subst hil
  exact ⟨rfl, hs⟩

theorem first_no {c : Cargo} {n : Nat} {s : List Int} (h : ¬ (times c s).getD n 0 < never c) : false = firstQ c n s := by unfold firstQ tOf; rw [decide_eq_false h]; rfl
theorem first_yes {c : Cargo} {n : Nat} {s : List Int} (h : (times c s).getD n 0 < never c) : decide (minTo (times c s) (5 - 1) = (times c s).getD n 0) = firstQ c n s := by unfold firstQ tOf; rw [decide_eq_true h]; rfl
theorem firstP_e {c : Cargo} {n : Int} (h : ¬ enterE c [noneA c.holds.length [n]] = 0) : firstP c n = ([], enterE c [noneA c.holds.length [n]]) := by unfold firstP; rw [if_pos h]
theorem firstP_y {c : Cargo} {n : Int} (h : enterE c [noneA c.holds.length [n]] = 0) : firstP c n = (firstTo c n.toNat c.lots.length, 0) := by unfold firstP; rw [if_neg (by simp [h])]
theorem firstT_yes {c : Cargo} {n i : Nat} (hi : i < c.lots.length) (h : c.lots[i].hold = (n : Int)) (h2 : ¬ Tu.ask c n (firstQ c i) = 2) : firstTo c n (i + 1) = firstTo c n i ++ [(i : Int)] := by rw [firstTo, zD1 hi, if_pos ⟨h, h2⟩]
theorem firstT_no {c : Cargo} {n i : Nat} (hi : i < c.lots.length) (h : ¬ c.lots[i].hold = (n : Int) ∨ Tu.ask c n (firstQ c i) = 2) : firstTo c n (i + 1) = firstTo c n i := by
  rw [firstTo, zD1 hi, if_neg (by rintro ⟨h1, h2⟩; rcases h with h | h; exact h h1; exact h2 h)]
theorem first_len (c : Cargo) (n : Nat) : ∀ i, (firstTo c n i).length ≤ i
  | 0 => Nat.le_refl _
  | i + 1 => by
    have := first_len c n i
    rw [firstTo]; split
    · simp; omega
    · omega
theorem spoilsP_e {c : Cargo} {a b : Int} (h : ¬ enterE c (spoilsL c a b) = 0) : spoilsP c a b = (0, enterE c (spoilsL c a b)) := by unfold spoilsP; rw [if_pos h]
theorem spoilsP_y {c : Cargo} {a b : Int} (h : enterE c (spoilsL c a b) = 0) : spoilsP c a b = (Tu.ask c (holdOf c b.toNat) (spoilsQ c a.toNat b.toNat), 0) := by unfold spoilsP; rw [if_neg (by simp [h])]
theorem c56 {w0 w : World} {F : List (Nat × Obj)} (c : Cargo) (p : AtT) (cb mm : Nat) (hk : CK w0 F c p 0 cb mm) (n : Nat) (hn5 : n < 5) (b7 b6 : Nat) (h7 : Ats w0 F b7 0 [.int .i64 (n : Int)]) (h6 : Ats w0 F b6 0 [.pointer (some ⟨cb, 0, none⟩)]) (s : List Int) (hls : s.length = 8) (hs : St w0 w F) :
  Con Tryz.prog 56 [ia s, ia (times c s), .pointer (some ⟨b7,0, none⟩), .pointer (some ⟨b6,0, none⟩)] w fun v w' => v = .bool (firstQ c n s) ∧ St w0 w' F := by
  refine zAu (n := 21) func56 rfl rfl (zNl rfl) ?_
  have htl := zBf c s
  refine zAg (fun K2 g7 => (zAc (zDu (l := _) zAb rfl rfl rfl hs (fun b3 w4 g8 => ?_))))
  refine zDu (l := _) zAb rfl rfl rfl g8 (fun b6 w7 g9 => ?_)
  refine zBj rfl rfl (zAe (zAd (g7 _ _ (zAg (fun ga g6 => (zCe [] [(0,1),(1,0),(2,1),(3,1),(4,2),(5,0),(6,0),(7,0),(9,1),(10,0),(11,1),(8,2),(12,0),(13,0),(14,0)] zB0 (zB5 (by kernel_rfl)) g9 (fun gb g3 => ?_)))))))
  refine zBb rfl zAb rfl g3 (fun _ hq => (zAk isAgg3 hq.tail.tail rfl rfl h7)) ?_
  refine d_w rfl (fun _ => zCb underlying77 sizeOf3 rfl rfl rfl rfl (i := n) (by first | rfl | omega) (by omega)) rfl ?_
  refine zBb rfl zAb rfl g3 (fun _ hq => (zAk isAgg3 hq rfl rfl (zCy (i := 0) (j := n) rfl (by first | omega | rfl | (simp only [hls, zBf, zL] <;> omega))))) ?_
  refine zBb rfl zAb rfl g3 (fun _ hq => (zAk isAgg69 hq.tail.tail rfl rfl h6)) ?_
  refine zBl rfl ?_
  refine zAr zAb call41 rfl rfl rfl rfl (c41 c _ 0 cb mm hk.cons.cons g3) ?_
  rintro _ gc ⟨rfl, g0⟩
  refine zAe (qn ⟨g0, ?_⟩)
  refine d_w rfl (fun _ => zCl rfl rfl rfl rfl) rfl ?_
  refine d_w rfl (fun _ => zAi (v := .bool _) rfl rfl) rfl ?_
  refine zDx (fun g4 => ?_) (fun g4 => ?_)
  ·
   try simp only [zS] at g4
   refine zBv rfl (zAp rfl rfl rfl) rfl (fun _ => (zGv underlying77 sizeOf3 rfl rfl)) ?_
   refine zBb rfl (zAp rfl rfl rfl) rfl g0 (fun _ hq => (zAk isAgg3 hq.tail.tail rfl rfl h7)) ?_
   refine zBv rfl (zAp rfl rfl rfl) rfl (fun _ => (zCb underlying77 sizeOf3 rfl rfl rfl rfl (i := n) (by first | rfl | omega) (by omega))) ?_
   refine zBb rfl (zAp rfl rfl rfl) rfl g0 (fun _ hq => (zAk isAgg3 hq rfl rfl (zCy (i := 0) (j := n) rfl (by first | omega | rfl | (simp only [hls, zBf, zL] <;> omega))))) ?_
   refine zBl rfl ?_
   refine zAr (zAp rfl rfl rfl) call57 rfl rfl rfl rfl ((by have h := c57 _ (times c s) 5 (by omega) (by omega) (zEq (i := 0) rfl) g0; rw [zBf] at h; exact h)) ?_
   rintro _ gd ⟨rfl, g5⟩
   refine zAe (qn ⟨g5, ?_⟩)
   refine zBv rfl (zAp rfl rfl rfl) rfl (fun _ => (zB3 rfl rfl rfl rfl)) ?_
   refine d_w rfl (fun _ => zAv (v := .bool _) rfl rfl rfl rfl) rfl ?_
   refine d_w rfl (fun _ => zAo (v := .bool _) rfl rfl) rfl ?_
   refine zBh ?_
   refine zAd (g6 _ _ (zA7 (zBa (l := [.tmp 6]) (vs := [_]) rfl ⟨⟨rfl, (rfl : _ = Value.bool _)⟩, trivial⟩ ?_)))
   first
     | exact ⟨congrArg Value.bool (first_yes (by omega)), g5.tail.tail⟩
     | exact ⟨congrArg Value.bool (first_no (by omega)), g5.tail.tail⟩
  try simp only [zS] at g4
  refine zBr rfl rfl rfl rfl ?_
  refine zCt rfl rfl rfl rfl g0 ?_
  refine zBr rfl rfl rfl rfl ?_
  refine zCt rfl rfl rfl rfl g0 ?_
  refine zBl rfl ?_
  refine zAj rfl rfl rfl ?_
  refine zAe (qn ⟨g0, ?_⟩)
  refine zBr rfl rfl rfl rfl ?_
  refine d_w rfl (fun _ => zBg (v := _) rfl rfl rfl rfl) rfl ?_
  refine d_w rfl (fun _ => zAo (v := .bool _) rfl rfl) rfl ?_
  refine zBh ?_
  refine zAd (g6 _ _ (zA7 (zBa (l := [.tmp 6]) (vs := [_]) rfl ⟨⟨rfl, (rfl : _ = Value.bool _)⟩, trivial⟩ ?_)))
  first
    | exact ⟨congrArg Value.bool (first_yes (by omega)), g0.tail.tail⟩
    | exact ⟨congrArg Value.bool (first_no (by omega)), g0.tail.tail⟩

theorem first_qis {w0 : World} {F : List (Nat × Obj)} (c : Cargo) (p : AtT) (cb mm : Nat) (hk : CK w0 F c p 0 cb mm) (hco : c.Ok) (hold : Nat) (hh : hold < c.holds.length) (n : Nat) (hn5 : n < 5) (b7 b6 : Nat) (h7 : Ats w0 F b7 0 [.int .i64 (n : Int)]) (h6 : Ats w0 F b6 0 [.pointer (some ⟨cb, 0, none⟩)]) : QIs w0 F c mm hold (.func (.func 56) #[] #[.pointer (some ⟨b7,0, none⟩), .pointer (some ⟨b6,0, none⟩)]) (firstQ c n) (fun i B => B = []) := by
  intro i hi B M X w hB hM hs
  subst hB
  refine (zDw call56 (c56 (F := X ++ (M ++ F)) c p cb mm hk.app.app n hn5 b7 b6 h7.app.app h6.app.app _ (zDz hco hh (List.getElem_mem hi)).1.len hs)).mono ?_
  rintro v w' ⟨rfl, g0⟩
  exact ⟨rfl, [], M, rfl, hM, g0⟩
theorem c26 {w0 w : World} {F : List (Nat × Obj)} (c : Cargo) (p : AtT) (hm : TIn w0 F c p) (hold : Int) (hs : St w0 w F) :
  Con Tryz.prog 26 [.agg (c.cells p).toArray, .int .i64 hold] w fun v w' => ∃ B a c', v = .tuple #[.slice a (firstP c hold).1.length c', .int .i64 (firstP c hold).2] ∧ Sl w0 B a 1 ((firstP c hold).1.map fun x => [Value.int .i64 x]) ∧ St w0 w' (B ++ F) := by
  refine zAu (n := 52) func26 rfl rfl (zNl rfl) ?_
  have hll0 := hm.ll
  have hlh0 := hm.lh
  refine zAg (fun K2 gW => (zAc (zCj (v := .agg #[.slice _ _ _, .int _ _, .slice _ _ _, .slice _ _ _, .slice _ _ _]) (cs := [_,_,_,_,_]) zAb rfl rfl rfl hs (fun b3 w4 gX => ?_))))
  refine zBj rfl rfl (zBj rfl rfl (zAe (zAd (gW _ _ (zAg (fun K7 gH => (w_cut [5,6,10,11,12,13,14,15,16,17,18,19,20,21] [5,6] (fun vs w => ∃ bc, (¬ enterE c [noneA c.holds.length [hold]] = 0 ∧ vs = [.int .i64 (enterE c [noneA c.holds.length [hold]]), .pointer (some ⟨bc, 0, none⟩)] ∧ St w0 w ((b3, blk 42 (c.cells p)) :: F)) ∨ (enterE c [noneA c.holds.length [hold]] = 0 ∧ ∃ cb mm M, vs = [.int .i64 0, .pointer (some ⟨bc, 0, none⟩)] ∧ Memo c mm M ∧ St w0 w ((cb, blk 132 [.slice p.ae c.heat.length p.ce, .int .i64 c.gas, .slice p.ah c.holds.length p.ch, .slice p.al c.lots.length p.cl, .slice p.an c.seen.length p.cn, .int .i64 ((0 : Nat) : Int), .map (some mm)]) :: (bc, blk 69 [.pointer (some ⟨cb, 0, none⟩)]) :: (b3, blk 42 (c.cells p)) :: (M ++ F)))) (fun K9 g0 => ?_) ?_)))))))
  ·
   refine w_drawT (C := fun w => St w0 w _) [13] (.two [(0,1),(1,0),(2,1),(3,0),(4,0)] 5 12 (.two [] 6 12 (.two [] 7 12 (.two [] 8 12 (.done [(9,0),(10,0),(11,0),(12,2),(13,3),(14,0)]) (.done [(8,2),(9,0),(10,0),(11,0),(13,3),(14,0)])) (.done [(7,2),(8,2),(9,0),(10,0),(11,0),(13,3),(14,0)])) (.done [(6,2),(7,2),(8,2),(9,0),(10,0),(11,0),(13,3),(14,0)])) (.done [(5,2),(6,2),(7,2),(8,2),(9,0),(10,0),(11,0),(13,3),(14,0)])) zB0 (by kernel_rfl) gX (fun _ h => h.drew) (fun jk ga => ?_)
   refine zFa ?_
   refine zBb rfl zAb rfl ga (fun _ hq => (zA9 (vs := [_,_,_,_,_]) isAgg42 sizeOf42 hq rfl rfl (zAl (i := 0) (vs := [_,_,_,_,_]) rfl rfl))) ?_
   refine d_w rfl (fun _ => zAf (o := 2) (i := 2) underlying42 rfl sizeOf36 rfl rfl rfl) rfl ?_
   refine zBb rfl zAb rfl ga (fun _ hq => (zAk isAgg36 hq rfl rfl (zAl (i := 0) (vs := [_]) rfl rfl))) ?_
   refine d_w rfl (fun _ => zBo underlying36 rfl rfl) rfl ?_
   refine d_w rfl (fun _ => zA6 rfl rfl) rfl ?_
   refine zHu rfl rfl ?_ ?_
   ·
    refine zA3 (ps := [(0, _)]) (pv := [(0, .int _ _)]) (cs := [_]) zAb rfl rfl (fun w => zHy _ w) ga (fun jl jm gd => ?_)
    refine zAe (qn ⟨gd.tail, ?_⟩)
    refine zFa ?_
    refine zHu rfl rfl ?_ ?_
    ·
     refine zAr zAb call39 rfl rfl rfl rfl (c39 _ (by omega) _ _ [_] (by simp) (zBd (i := 0) (rows := [[_]]) rfl (by simp) rfl) gd) ?_
     rintro _ jn ⟨rfl, ge⟩
     refine zAe (qn ⟨ge.tail, ?_⟩)
     refine zFa ?_
     refine zHu rfl rfl ?_ ?_
     ·
      refine zA3 (ps := [(0, _)]) (pv := [(0, .agg #[.bool _, .int _ _])]) (cs := [_,_]) zAb rfl rfl (fun w => zGb _ _ w) ge (fun jo jp gf => ?_)
      refine zAe (qn ⟨gf.tail.tail, ?_⟩)
      refine zFa ?_
      refine zHu rfl rfl ?_ ?_
      ·
       refine zAr zAb call32 rfl rfl rfl rfl (c32 c _ hm.cons.cons.cons _ _ [noneA c.holds.length [hold]] (by simp [spoilsL, putL, outL]) (fun x hx _ => by simp only [List.mem_cons, List.not_mem_nil, or_false] at hx; rcases hx with rfl <;> simp [noneA, hoursA]) (zBd (i := 0) (rows := (arows [noneA c.holds.length [hold]])) rfl (fun row h => by obtain ⟨x, _, rfl⟩ := List.mem_map.1 h; rfl) rfl) gf) ?_
       rintro _ jq (⟨hee, rfl, g7⟩ | ⟨hee, cb, mm, M, rfl, hM, g7⟩)
       ·
        refine zAe (qn ⟨g7.tail.tail, ?_⟩)
        refine zDg ?_
        refine d_w rfl (fun _ => zAi (v := .tuple _) rfl rfl) rfl ?_
        refine d_w rfl (fun _ => zAh (v := .pointer _) rfl rfl rfl) rfl ?_
        refine d_w rfl (fun _ => zAh (v := .int _ _) rfl rfl rfl) rfl ?_
        refine zBl rfl ?_
        refine zA0 (cs := [_]) zAb zeroValue69 rfl g7 (fun jr js gb => ?_)
        refine zAe (qn ⟨gb.tail.tail.tail, ?_⟩)
        replace gb := (show St _ _ (_ :: _ :: _ :: _ :: F) from gb)
        refine zBm rfl ?_
        refine zAs (i := 0) (v := .pointer _) (vs := [_]) zAb sizeOf69 rfl rfl rfl rfl rfl (by simp [Value.oneCell']) gb rfl (zNl rfl) (fun jt gY => ?_)
        refine zAe (qn ?_)
        refine d_w rfl (fun _ => zA2 rfl rfl) rfl ?_
        refine zBh ?_
        refine zAd (g0 _ _ (Md.intro (by repeat (first | exact zAz | exact zA5 | refine zA4 rfl ?_ | refine zAw rfl ?_ _ | refine zAt rfl ?_)) ?_))
        have gg := gY.tail.tail.tail
        replace gg := (show St _ _ (_ :: F) from gg)
        exact ⟨_, .inl ⟨hee, rfl, gg⟩⟩
       replace g7 := (show St _ _ (M ++ (_ :: _ :: _ :: _ :: F)) from g7)
       refine zAe (qn ⟨g7.drop.tail.tail.tail, ?_⟩)
       refine zDg ?_
       refine d_w rfl (fun _ => zAi (v := .tuple _) rfl rfl) rfl ?_
       refine d_w rfl (fun _ => zAh (v := .pointer _) rfl rfl rfl) rfl ?_
       refine d_w rfl (fun _ => zAh (v := .int _ _) rfl rfl rfl) rfl ?_
       refine zBl rfl ?_
       refine zA0 (cs := [_]) zAb zeroValue69 rfl g7 (fun ju jv gI => ?_)
       refine zAe (qn ⟨gI.tail.drop.tail.tail.tail, ?_⟩)
       have gh := ((((((gI.perm (zAa [_] M _)).perm ((List.Perm.append_left M (zAa [_,_,_,_] [_] _)).trans (zAa M [_] _))).perm ((List.Perm.append_left [_] ((List.Perm.append_left M (zAa [_,_,_] [_] _)).trans (zAa M [_] _))).trans (zAa [_] [_] _))).perm ((List.Perm.append_left [_,_] ((List.Perm.append_left M (zAa [_,_] [_] _)).trans (zAa M [_] _))).trans (zAa [_,_] [_] _))).perm ((List.Perm.append_left [_,_,_] ((List.Perm.append_left M (zAa [_] [_] _)).trans (zAa M [_] _))).trans (zAa [_,_,_] [_] _))).perm ((List.Perm.append_left [_,_,_,_] (zAa M [_] _)).trans (zAa [_,_,_,_] [_] _)))
       replace gh := (show St _ _ (_ :: _ :: _ :: _ :: _ :: M ++ (F)) from gh)
       refine zBm rfl ?_
       refine zAs (i := 0) (v := .pointer _) (vs := [_]) zAb sizeOf69 rfl rfl rfl rfl rfl (by simp [Value.oneCell']) gh rfl (zNl rfl) (fun jw gZ => ?_)
       refine zAe (qn ?_)
       refine d_w rfl (fun _ => zA2 rfl rfl) rfl ?_
       refine zBh ?_
       refine zAd (g0 _ _ (Md.intro (by repeat (first | exact zAz | exact zA5 | refine zA4 rfl ?_ | refine zAw rfl ?_ _ | refine zAt rfl ?_)) ?_))
       have gi := ((((((gZ.perm (zAa [_,_] [_] _)).tail.perm (zAa [_,_] [_] _)).tail.perm (zAa [_,_,_] M _)).perm ((List.Perm.append_left M (zAa [_,_] [_] _)).trans (zAa M [_] _))).perm ((List.Perm.append_left [_] (zAa M [_] _)).trans (zAa [_] [_] _))).perm ((List.Perm.append_left [_,_] (zAa M [_] _)).trans (zAa [_,_] [_] _)))
       replace gi := (show St _ _ (_ :: _ :: _ :: M ++ (F)) from gi)
       exact ⟨_, .inr ⟨hee, cb, mm, M, rfl, hM, gi⟩⟩
      refine zA0 (cs := [_]) zAb zeroValue69 rfl gf (fun jx jy gJ => ?_)
      refine zAe (qn ⟨gJ.tail.tail.tail, ?_⟩)
      refine zDg ?_
      refine zBl rfl ?_
      refine zAr zAb call32 rfl rfl rfl rfl (c32 c _ hm.cons.cons.cons.cons _ _ [noneA c.holds.length [hold]] (by simp [spoilsL, putL, outL]) (fun x hx _ => by simp only [List.mem_cons, List.not_mem_nil, or_false] at hx; rcases hx with rfl <;> simp [noneA, hoursA]) (zBd (i := 1) (rows := (arows [noneA c.holds.length [hold]])) rfl (fun row h => by obtain ⟨x, _, rfl⟩ := List.mem_map.1 h; rfl) rfl) gJ) ?_
      rintro _ jz (⟨hee, rfl, g3⟩ | ⟨hee, cb, mm, M, rfl, hM, g3⟩)
      ·
       refine zAe (qn ⟨g3.tail.tail.tail, ?_⟩)
       refine d_w rfl (fun _ => zAi (v := .tuple _) rfl rfl) rfl ?_
       refine d_w rfl (fun _ => zAh (v := .pointer _) rfl rfl rfl) rfl ?_
       refine d_w rfl (fun _ => zAh (v := .int _ _) rfl rfl rfl) rfl ?_
       replace g3 := (show St _ _ (_ :: _ :: _ :: _ :: F) from g3)
       refine zBm rfl ?_
       refine zAs (i := 0) (v := .pointer _) (vs := [_]) zAb sizeOf69 rfl rfl rfl rfl rfl (by simp [Value.oneCell']) g3 rfl (zNl rfl) (fun jA hD => ?_)
       refine zAe (qn ?_)
       refine d_w rfl (fun _ => zA2 rfl rfl) rfl ?_
       refine zBh ?_
       refine zAd (g0 _ _ (Md.intro (by repeat (first | exact zAz | exact zA5 | refine zA4 rfl ?_ | refine zAw rfl ?_ _ | refine zAt rfl ?_)) ?_))
       have gj := hD.tail.tail.tail
       replace gj := (show St _ _ (_ :: F) from gj)
       exact ⟨_, .inl ⟨hee, rfl, gj⟩⟩
      replace g3 := (show St _ _ (M ++ (_ :: _ :: _ :: _ :: _ :: F)) from g3)
      refine zAe (qn ⟨g3.drop.tail.tail.tail.tail, ?_⟩)
      refine d_w rfl (fun _ => zAi (v := .tuple _) rfl rfl) rfl ?_
      refine d_w rfl (fun _ => zAh (v := .pointer _) rfl rfl rfl) rfl ?_
      refine d_w rfl (fun _ => zAh (v := .int _ _) rfl rfl rfl) rfl ?_
      have gk := (((((g3.perm ((List.Perm.append_left M (zAa [_,_,_,_] [_] _)).trans (zAa M [_] _))).perm ((List.Perm.append_left [_] ((List.Perm.append_left M (zAa [_,_,_] [_] _)).trans (zAa M [_] _))).trans (zAa [_] [_] _))).perm ((List.Perm.append_left [_,_] ((List.Perm.append_left M (zAa [_,_] [_] _)).trans (zAa M [_] _))).trans (zAa [_,_] [_] _))).perm ((List.Perm.append_left [_,_,_] ((List.Perm.append_left M (zAa [_] [_] _)).trans (zAa M [_] _))).trans (zAa [_,_,_] [_] _))).perm ((List.Perm.append_left [_,_,_,_] (zAa M [_] _)).trans (zAa [_,_,_,_] [_] _)))
      replace gk := (show St _ _ (_ :: _ :: _ :: _ :: _ :: M ++ (F)) from gk)
      refine zBm rfl ?_
      refine zAs (i := 1) (v := .pointer _) (vs := [_]) zAb sizeOf69 rfl rfl rfl rfl rfl (by simp [Value.oneCell']) gk rfl (zNl rfl) (fun jB hG => ?_)
      refine zAe (qn ?_)
      refine d_w rfl (fun _ => zA2 rfl rfl) rfl ?_
      refine zBh ?_
      refine zAd (g0 _ _ (Md.intro (by repeat (first | exact zAz | exact zA5 | refine zA4 rfl ?_ | refine zAw rfl ?_ _ | refine zAt rfl ?_)) ?_))
      have gl := ((hG.perm (zAa [_,_] [_] _)).tail.perm (zAa [_,_] [_] _)).tail
      replace gl := (show St _ _ (_ :: _ :: _ :: M ++ (F)) from gl)
      exact ⟨_, .inr ⟨hee, cb, mm, M, rfl, hM, gl⟩⟩
     refine zA0 (cs := [_]) zAb zeroValue69 rfl ge (fun jC jD gK => ?_)
     refine zAe (qn ⟨gK.tail.tail, ?_⟩)
     refine zDg ?_
     refine zBl rfl ?_
     refine zA3 (ps := [(0, _)]) (pv := [(0, .agg #[.bool _, .int _ _])]) (cs := [_,_]) zAb rfl rfl (fun w => zGb _ _ w) gK (fun jE jF gL => ?_)
     refine zAe (qn ⟨gL.tail.tail.tail, ?_⟩)
     refine zBl rfl ?_
     refine zAr zAb call32 rfl rfl rfl rfl (c32 c _ hm.cons.cons.cons.cons _ _ [noneA c.holds.length [hold]] (by simp [spoilsL, putL, outL]) (fun x hx _ => by simp only [List.mem_cons, List.not_mem_nil, or_false] at hx; rcases hx with rfl <;> simp [noneA, hoursA]) (zBd (i := 0) (rows := (arows [noneA c.holds.length [hold]])) rfl (fun row h => by obtain ⟨x, _, rfl⟩ := List.mem_map.1 h; rfl) rfl) gL) ?_
     rintro _ jG (⟨hee, rfl, g4⟩ | ⟨hee, cb, mm, M, rfl, hM, g4⟩)
     ·
      refine zAe (qn ⟨g4.tail.tail.tail, ?_⟩)
      refine d_w rfl (fun _ => zAi (v := .tuple _) rfl rfl) rfl ?_
      refine d_w rfl (fun _ => zAh (v := .pointer _) rfl rfl rfl) rfl ?_
      refine d_w rfl (fun _ => zAh (v := .int _ _) rfl rfl rfl) rfl ?_
      replace g4 := (show St _ _ (_ :: _ :: _ :: _ :: F) from g4)
      refine zBm rfl ?_
      refine zAs (i := 1) (v := .pointer _) (vs := [_]) zAb sizeOf69 rfl rfl rfl rfl rfl (by simp [Value.oneCell']) g4 rfl (zNl rfl) (fun jH hH => ?_)
      refine zAe (qn ?_)
      refine d_w rfl (fun _ => zA2 rfl rfl) rfl ?_
      refine zBh ?_
      refine zAd (g0 _ _ (Md.intro (by repeat (first | exact zAz | exact zA5 | refine zA4 rfl ?_ | refine zAw rfl ?_ _ | refine zAt rfl ?_)) ?_))
      have gm := hH.tail.tail.tail
      replace gm := (show St _ _ (_ :: F) from gm)
      exact ⟨_, .inl ⟨hee, rfl, gm⟩⟩
     replace g4 := (show St _ _ (M ++ (_ :: _ :: _ :: _ :: _ :: F)) from g4)
     refine zAe (qn ⟨g4.drop.tail.tail.tail.tail, ?_⟩)
     refine d_w rfl (fun _ => zAi (v := .tuple _) rfl rfl) rfl ?_
     refine d_w rfl (fun _ => zAh (v := .pointer _) rfl rfl rfl) rfl ?_
     refine d_w rfl (fun _ => zAh (v := .int _ _) rfl rfl rfl) rfl ?_
     have gn := (((((g4.perm ((List.Perm.append_left M (zAa [_,_,_,_] [_] _)).trans (zAa M [_] _))).perm ((List.Perm.append_left [_] ((List.Perm.append_left M (zAa [_,_,_] [_] _)).trans (zAa M [_] _))).trans (zAa [_] [_] _))).perm ((List.Perm.append_left [_,_] ((List.Perm.append_left M (zAa [_,_] [_] _)).trans (zAa M [_] _))).trans (zAa [_,_] [_] _))).perm ((List.Perm.append_left [_,_,_] ((List.Perm.append_left M (zAa [_] [_] _)).trans (zAa M [_] _))).trans (zAa [_,_,_] [_] _))).perm ((List.Perm.append_left [_,_,_,_] (zAa M [_] _)).trans (zAa [_,_,_,_] [_] _)))
     replace gn := (show St _ _ (_ :: _ :: _ :: _ :: _ :: M ++ (F)) from gn)
     refine zBm rfl ?_
     refine zAs (i := 2) (v := .pointer _) (vs := [_]) zAb sizeOf69 rfl rfl rfl rfl rfl (by simp [Value.oneCell']) gn rfl (zNl rfl) (fun jI hN => ?_)
     refine zAe (qn ?_)
     refine d_w rfl (fun _ => zA2 rfl rfl) rfl ?_
     refine zBh ?_
     refine zAd (g0 _ _ (Md.intro (by repeat (first | exact zAz | exact zA5 | refine zA4 rfl ?_ | refine zAw rfl ?_ _ | refine zAt rfl ?_)) ?_))
     have go := ((hN.perm (zAa [_] [_] _)).tail.perm (zAa [_,_] [_] _)).tail
     replace go := (show St _ _ (_ :: _ :: _ :: M ++ (F)) from go)
     exact ⟨_, .inr ⟨hee, cb, mm, M, rfl, hM, go⟩⟩
    refine zA0 (cs := [_]) zAb zeroValue69 rfl gd (fun jJ jK gM => ?_)
    refine zAe (qn ⟨gM.tail.tail, ?_⟩)
    refine zDg ?_
    refine zBl rfl ?_
    refine zAr zAb call39 rfl rfl rfl rfl (c39 _ (by omega) _ _ [_] (by simp) (zBd (i := 1) (rows := [[_]]) rfl (by simp) rfl) gM) ?_
    rintro _ jL ⟨rfl, gN⟩
    refine zAe (qn ⟨gN.tail.tail, ?_⟩)
    refine zBl rfl ?_
    refine zA3 (ps := [(0, _)]) (pv := [(0, .agg #[.bool _, .int _ _])]) (cs := [_,_]) zAb rfl rfl (fun w => zGb _ _ w) gN (fun jM jN gO => ?_)
    refine zAe (qn ⟨gO.tail.tail.tail, ?_⟩)
    refine zBl rfl ?_
    refine zAr zAb call32 rfl rfl rfl rfl (c32 c _ hm.cons.cons.cons.cons _ _ [noneA c.holds.length [hold]] (by simp [spoilsL, putL, outL]) (fun x hx _ => by simp only [List.mem_cons, List.not_mem_nil, or_false] at hx; rcases hx with rfl <;> simp [noneA, hoursA]) (zBd (i := 0) (rows := (arows [noneA c.holds.length [hold]])) rfl (fun row h => by obtain ⟨x, _, rfl⟩ := List.mem_map.1 h; rfl) rfl) gO) ?_
    rintro _ jO (⟨hee, rfl, g5⟩ | ⟨hee, cb, mm, M, rfl, hM, g5⟩)
    ·
     refine zAe (qn ⟨g5.tail.tail.tail, ?_⟩)
     refine d_w rfl (fun _ => zAi (v := .tuple _) rfl rfl) rfl ?_
     refine d_w rfl (fun _ => zAh (v := .pointer _) rfl rfl rfl) rfl ?_
     refine d_w rfl (fun _ => zAh (v := .int _ _) rfl rfl rfl) rfl ?_
     replace g5 := (show St _ _ (_ :: _ :: _ :: _ :: F) from g5)
     refine zBm rfl ?_
     refine zAs (i := 1) (v := .pointer _) (vs := [_]) zAb sizeOf69 rfl rfl rfl rfl rfl (by simp [Value.oneCell']) g5 rfl (zNl rfl) (fun jP hO => ?_)
     refine zAe (qn ?_)
     refine d_w rfl (fun _ => zA2 rfl rfl) rfl ?_
     refine zBh ?_
     refine zAd (g0 _ _ (Md.intro (by repeat (first | exact zAz | exact zA5 | refine zA4 rfl ?_ | refine zAw rfl ?_ _ | refine zAt rfl ?_)) ?_))
     have gp := hO.tail.tail.tail
     replace gp := (show St _ _ (_ :: F) from gp)
     exact ⟨_, .inl ⟨hee, rfl, gp⟩⟩
    replace g5 := (show St _ _ (M ++ (_ :: _ :: _ :: _ :: _ :: F)) from g5)
    refine zAe (qn ⟨g5.drop.tail.tail.tail.tail, ?_⟩)
    refine d_w rfl (fun _ => zAi (v := .tuple _) rfl rfl) rfl ?_
    refine d_w rfl (fun _ => zAh (v := .pointer _) rfl rfl rfl) rfl ?_
    refine d_w rfl (fun _ => zAh (v := .int _ _) rfl rfl rfl) rfl ?_
    have gq := (((((g5.perm ((List.Perm.append_left M (zAa [_,_,_,_] [_] _)).trans (zAa M [_] _))).perm ((List.Perm.append_left [_] ((List.Perm.append_left M (zAa [_,_,_] [_] _)).trans (zAa M [_] _))).trans (zAa [_] [_] _))).perm ((List.Perm.append_left [_,_] ((List.Perm.append_left M (zAa [_,_] [_] _)).trans (zAa M [_] _))).trans (zAa [_,_] [_] _))).perm ((List.Perm.append_left [_,_,_] ((List.Perm.append_left M (zAa [_] [_] _)).trans (zAa M [_] _))).trans (zAa [_,_,_] [_] _))).perm ((List.Perm.append_left [_,_,_,_] (zAa M [_] _)).trans (zAa [_,_,_,_] [_] _)))
    replace gq := (show St _ _ (_ :: _ :: _ :: _ :: _ :: M ++ (F)) from gq)
    refine zBm rfl ?_
    refine zAs (i := 2) (v := .pointer _) (vs := [_]) zAb sizeOf69 rfl rfl rfl rfl rfl (by simp [Value.oneCell']) gq rfl (zNl rfl) (fun jQ hP => ?_)
    refine zAe (qn ?_)
    refine d_w rfl (fun _ => zA2 rfl rfl) rfl ?_
    refine zBh ?_
    refine zAd (g0 _ _ (Md.intro (by repeat (first | exact zAz | exact zA5 | refine zA4 rfl ?_ | refine zAw rfl ?_ _ | refine zAt rfl ?_)) ?_))
    have gr := ((hP.perm (zAa [_] [_] _)).tail.perm (zAa [_,_] [_] _)).tail
    replace gr := (show St _ _ (_ :: _ :: _ :: M ++ (F)) from gr)
    exact ⟨_, .inr ⟨hee, cb, mm, M, rfl, hM, gr⟩⟩
   refine zA0 (cs := [_]) zAb zeroValue69 rfl ga (fun jR jS gP => ?_)
   refine zAe (qn ⟨gP.tail, ?_⟩)
   refine zDg ?_
   refine zBl rfl ?_
   refine zA3 (ps := [(0, _)]) (pv := [(0, .int _ _)]) (cs := [_]) zAb rfl rfl (fun w => zHy _ w) gP (fun jT jU gQ => ?_)
   refine zAe (qn ⟨gQ.tail.tail, ?_⟩)
   refine zBl rfl ?_
   refine zAr zAb call39 rfl rfl rfl rfl (c39 _ (by omega) _ _ [_] (by simp) (zBd (i := 0) (rows := [[_]]) rfl (by simp) rfl) gQ) ?_
   rintro _ jV ⟨rfl, gR⟩
   refine zAe (qn ⟨gR.tail.tail, ?_⟩)
   refine zBl rfl ?_
   refine zA3 (ps := [(0, _)]) (pv := [(0, .agg #[.bool _, .int _ _])]) (cs := [_,_]) zAb rfl rfl (fun w => zGb _ _ w) gR (fun jW jX gS => ?_)
   refine zAe (qn ⟨gS.tail.tail.tail, ?_⟩)
   refine zBl rfl ?_
   refine zAr zAb call32 rfl rfl rfl rfl (c32 c _ hm.cons.cons.cons.cons _ _ [noneA c.holds.length [hold]] (by simp [spoilsL, putL, outL]) (fun x hx _ => by simp only [List.mem_cons, List.not_mem_nil, or_false] at hx; rcases hx with rfl <;> simp [noneA, hoursA]) (zBd (i := 0) (rows := (arows [noneA c.holds.length [hold]])) rfl (fun row h => by obtain ⟨x, _, rfl⟩ := List.mem_map.1 h; rfl) rfl) gS) ?_
   rintro _ jY (⟨hee, rfl, g6⟩ | ⟨hee, cb, mm, M, rfl, hM, g6⟩)
   ·
    refine zAe (qn ⟨g6.tail.tail.tail, ?_⟩)
    refine d_w rfl (fun _ => zAi (v := .tuple _) rfl rfl) rfl ?_
    refine d_w rfl (fun _ => zAh (v := .pointer _) rfl rfl rfl) rfl ?_
    refine d_w rfl (fun _ => zAh (v := .int _ _) rfl rfl rfl) rfl ?_
    replace g6 := (show St _ _ (_ :: _ :: _ :: _ :: F) from g6)
    refine zBm rfl ?_
    refine zAs (i := 2) (v := .pointer _) (vs := [_]) zAb sizeOf69 rfl rfl rfl rfl rfl (by simp [Value.oneCell']) g6 rfl (zNl rfl) (fun jZ hX => ?_)
    refine zAe (qn ?_)
    refine d_w rfl (fun _ => zA2 rfl rfl) rfl ?_
    refine zBh ?_
    refine zAd (g0 _ _ (Md.intro (by repeat (first | exact zAz | exact zA5 | refine zA4 rfl ?_ | refine zAw rfl ?_ _ | refine zAt rfl ?_)) ?_))
    have gt := hX.tail.tail.tail
    replace gt := (show St _ _ (_ :: F) from gt)
    exact ⟨_, .inl ⟨hee, rfl, gt⟩⟩
   replace g6 := (show St _ _ (M ++ (_ :: _ :: _ :: _ :: _ :: F)) from g6)
   refine zAe (qn ⟨g6.drop.tail.tail.tail.tail, ?_⟩)
   refine d_w rfl (fun _ => zAi (v := .tuple _) rfl rfl) rfl ?_
   refine d_w rfl (fun _ => zAh (v := .pointer _) rfl rfl rfl) rfl ?_
   refine d_w rfl (fun _ => zAh (v := .int _ _) rfl rfl rfl) rfl ?_
   have gu := (((((g6.perm ((List.Perm.append_left M (zAa [_,_,_,_] [_] _)).trans (zAa M [_] _))).perm ((List.Perm.append_left [_] ((List.Perm.append_left M (zAa [_,_,_] [_] _)).trans (zAa M [_] _))).trans (zAa [_] [_] _))).perm ((List.Perm.append_left [_,_] ((List.Perm.append_left M (zAa [_,_] [_] _)).trans (zAa M [_] _))).trans (zAa [_,_] [_] _))).perm ((List.Perm.append_left [_,_,_] ((List.Perm.append_left M (zAa [_] [_] _)).trans (zAa M [_] _))).trans (zAa [_,_,_] [_] _))).perm ((List.Perm.append_left [_,_,_,_] (zAa M [_] _)).trans (zAa [_,_,_,_] [_] _)))
   replace gu := (show St _ _ (_ :: _ :: _ :: _ :: _ :: M ++ (F)) from gu)
   refine zBm rfl ?_
   refine zAs (i := 3) (v := .pointer _) (vs := [_]) zAb sizeOf69 rfl rfl rfl rfl rfl (by simp [Value.oneCell']) gu rfl (zNl rfl) (fun k4 hY => ?_)
   refine zAe (qn ?_)
   refine d_w rfl (fun _ => zA2 rfl rfl) rfl ?_
   refine zBh ?_
   refine zAd (g0 _ _ (Md.intro (by repeat (first | exact zAz | exact zA5 | refine zA4 rfl ?_ | refine zAw rfl ?_ _ | refine zAt rfl ?_)) ?_))
   have gv := ((hY.perm (zAa [_] [_] _)).tail.perm (zAa [_] [_] _)).tail
   replace gv := (show St _ _ (_ :: _ :: _ :: M ++ (F)) from gv)
   exact ⟨_, .inr ⟨hee, cb, mm, M, rfl, hM, gv⟩⟩
  intro vs μ k5 hM
  clear hs
  obtain ⟨bc, hM⟩ := hM
  rcases hM with hM | hM
  ·
   obtain ⟨hee, rfl, hs⟩ := hM
   refine zAd (gH _ _ (zAg (fun k6 k7 => (zAg (fun k8 j0 => (zAc (zBe rfl rfl (w_p (zCv rfl rfl rfl rfl) rfl (zAe (zAd (j0 _ _ (zA1 rfl rfl (fun gc => ?_) (fun gc => ?_)))))))))))))
   ·
    try simp only [zS] at gc
    refine zAg (fun k9 j1 => (zAc (zBe rfl rfl (zBj rfl rfl (zBs rfl rfl (zAe (zAd (j1 _ _ (zA7 (zAm (zBa (l := [.tmp 4, .tmp 5]) (vs := [_,_]) rfl ⟨⟨rfl, show _ = (.slice _ _ _ : Value) from rfl⟩, ⟨rfl, (rfl : _ = Value.int _ _)⟩, trivial⟩ ?_)))))))))))
    exact ⟨[], none, 0, by rw [firstP_e hee]; rfl, by rw [firstP_e hee]; exact Sl.nil _ _, hs.tail⟩
   exfalso
   try simp only [zS] at gc
   exact hee gc
  obtain ⟨hee, cb, mm, M, rfl, hM, hs⟩ := hM
  have hew := zE8 (fun x hx _ => by simp only [List.mem_cons, List.not_mem_nil, or_false] at hx; rcases hx with rfl <;> simp [noneA, hoursA]) hee
  have hok := check_ok hew.1
  have hlo := hok.ll
  have hle2 := hok.le
  have hlh2 := hok.lh
  refine zAd (gH _ _ (zAg (fun ka j2 => (zAg (fun kb j3 => (zAc (zBe rfl rfl (w_p (zCv rfl rfl rfl rfl) rfl (zAe (zAd (j3 _ _ (zB7 rfl rfl ?_))))))))))))
  refine zAx (zAd (j2 _ _ (zAg (fun kc j4 => (zAg (fun kd j5 => ?_))))))
  obtain ⟨n, rfl⟩ : ∃ n : Nat, hold = (n : Int) := ⟨hold.toNat, by have := zFi (any_1 hew.2.1) hold (by simp); omega⟩
  have hnh : n < c.holds.length := by have := zFi (any_1 hew.2.1) (n : Int) (by simp); omega
  refine zAc (w_p (zAf (o := 3) (i := 3) underlying42 rfl sizeOf39 rfl rfl rfl) rfl (w_p (zAk isAgg39 hs rfl rfl (zAl (i := 2) (vs := [_]) rfl rfl)) rfl (w_p (zBo underlying39 rfl rfl) rfl (w_p (zAi (v := _) rfl rfl) rfl ?_))))
  refine zAe (zAd (j5 _ _ (zA8 ?_)))
  refine zCd [4,7,8,9,28,29,30,31,32,33,34,35,36,37,38,39,40,41,42,43,44,45,46,47,48,49,50] [4,28] (fun k vs w => ∃ (i : Nat) (v : Value) (B M : List (Nat × Obj)), vs = [v, .int .i64 i] ∧ i ≤ c.lots.length ∧ k = c.lots.length - i ∧ Rt.Own v 3 1 (firstTo c n i).length (iv (firstTo c n i)) B ∧ Memo c mm M ∧ St w0 w ((cb, blk 132 [.slice p.ae c.heat.length p.ce, .int .i64 c.gas, .slice p.ah c.holds.length p.ch, .slice p.al c.lots.length p.cl, .slice p.an c.seen.length p.cn, .int .i64 ((0 : Nat) : Int), .map (some mm)]) :: (bc, blk 69 [.pointer (some ⟨cb, 0, none⟩)]) :: (b3, blk 42 (c.cells p)) :: (B ++ (M ++ F)))) (c.lots.length) ?_ ?_
  ·
   exact ⟨0, _, [], M, rfl, by omega, by omega, zE1 3 1, hM, hs⟩
  intro k vs μ ke hI kf gw
  clear hs hM
  obtain ⟨i, v, B, M, rfl, hia, rfl, hown, hM, hs⟩ := hI
  refine zAg (fun kg j6 => (zAc (w_p (zCl rfl rfl rfl rfl) rfl (zAe (zAd (j6 _ _ (zAg (fun kh j7 => (zA1 rfl rfl (fun gx => ?_) (fun gx => ?_))))))))))
  ·
   try simp only [zS] at gx
   refine zAx (zAd (j7 _ _ (zAg (fun ki gy => (zA8 ?_)))))
   refine zAg (fun kj j8 => ?_)
   have hi2 : i < c.lots.length := by omega
   obtain ⟨bx, ox, hbx, hx⟩ := zDy hm.l hi2
   have hsl := first_len c n i
   refine zAc (zBe rfl rfl (w_p (zBk underlying39 sizeOf38 rfl rfl (Eq.trans (show _ = Value.slice p.al c.lots.length p.cl from rfl) (by rw [hbx])) rfl (b := bx) (off := ox) (i := i) rfl hi2) rfl ?_))
   refine w_p (zA9 (vs := [_,_,_,_]) isAgg38 sizeOf38 hs.tail.tail.tail.drop.drop rfl rfl hx) rfl (zA0 (cs := [_]) zAb zeroValue3 rfl hs (fun j9 km ja => ?_))
   refine zA0 (cs := [_,_,_,_]) zAb zeroValue38 rfl ja (fun kn ko jb => ?_)
   refine zAs (i := 1) (v := .int _ _) (vs := [_]) zAb sizeOf3 rfl rfl rfl rfl rfl (by simp [Value.oneCell']) jb rfl (zNl rfl) (fun kp jc => ?_)
   refine zAs (i := 0) (v := .agg #[.int _ _, .int _ _, .int _ _, .int _ _]) (vs := [_,_,_,_]) zAb sizeOf38 rfl rfl rfl rfl rfl (by simp [Value.oneCell']) jc rfl (zNl rfl) (fun kq jd => ?_)
   refine zAe (zAd (j8 _ _ (zAg (fun kr je => (zAc (w_p (zCa (fv := []) (cv := [_,_]) rfl rfl rfl rfl) rfl (w_p (zBx (ps := [(0, _)]) (pv := [(0, .func _ _ _)]) rfl rfl (fun w => Try_UK_fb3 _ _ _ w)) rfl ?_)))))))
   refine zA0 (cs := [_]) zAb zeroValue82 rfl jd (fun ku kw jf => ?_)
   refine zAs (i := 0) (v := .agg #[.func _ _ _]) (vs := [_]) zAb sizeOf82 rfl rfl rfl rfl rfl (by simp [Value.oneCell']) jf rfl (zNl rfl) (fun kx g8 => ?_)
   refine zAe (zAd (je _ _ (zAg (fun ky gT => (zAc (w_p (zAf (o := 0) (i := 0) underlying38 rfl sizeOf3 rfl rfl rfl) rfl (w_p (zAk isAgg3 g8 rfl rfl (zAl (i := 1) (vs := [_]) rfl rfl)) rfl ?_)))))))
   refine zBe rfl rfl (w_p (zB3 rfl rfl rfl rfl) rfl (w_p (zAi (v := .bool _) rfl rfl) rfl (zBp (fun gz => ?_) (fun gz => ?_))))
   ·
    try simp only [zS] at gz
    refine w_y rfl rfl rfl (zAk isAgg69 g8 rfl rfl (zAl (i := 4) (vs := [_]) rfl rfl)) rfl ?_
    refine w_y rfl rfl rfl (zA6 rfl rfl) rfl ?_
    refine w_y rfl rfl rfl (zA9 (vs := [_]) isAgg82 sizeOf82 g8 rfl rfl (zAl (i := 0) (vs := [_]) rfl rfl)) rfl ?_
    have gA := ((((((((g8.perm (zAa [_,_,_,_,_] [_] _)).perm (zAa [_,_,_,_,_] [_] _)).perm (zAa [_,_,_,_,_] [_] _)).perm (zAa [_,_,_,_,_] [_] _)).perm (zAa [_,_,_,_,_] [_] _)).perm (zAa [_,_,_,_,_] [_] _)).perm ((List.Perm.append_left [_,_,_,_,_,_] (zAa B M _)).trans (zAa [_,_,_,_,_,_] M _))).perm ((List.Perm.append_left M (zAa [_,_,_,_,_,_] B _)).trans (zAa M B _)))
    replace gA := (show St _ _ (B ++ (M ++ (_ :: _ :: _ :: _ :: _ :: _ :: F))) from gA)
    refine zAr (zAp rfl rfl rfl) call34 rfl rfl rfl rfl ((by have h := c34 (X := B) (B := []) (M := M) (F := _ :: _ :: _ :: (cb, blk 132 [.slice p.ae c.heat.length p.ce, .int .i64 c.gas, .slice p.ah c.holds.length p.ch, .slice p.al c.lots.length p.cl, .slice p.an c.seen.length p.cn, .int .i64 ((0 : Nat) : Int), .map (some mm)]) :: _ :: _ :: F) c p cb mm ⟨hm.cons.cons.cons.cons.cons.cons, zAl (i := 3) rfl rfl, hok.t, by omega⟩ hok n hnh 56 #[] #[.pointer (some ⟨j9,0, none⟩), .pointer (some ⟨bc, 0, none⟩)] (firstQ c i) (fun i B => B = []) (first_qis c p cb mm ⟨hm.cons.cons.cons.cons.cons.cons, zAl (i := 3) rfl rfl, hok.t, by omega⟩ hok n hnh i (by omega) _ _ (zAl (i := 2) (vs := [_]) rfl rfl) (zAl (i := 4) (vs := [_]) rfl rfl)) rfl hM gA; exact h)) ?_
    rintro _ kz ⟨rfl, B1, M159, hJ1, gU, gB⟩
    subst hJ1
    replace gB := (show St _ _ (B ++ (M159 ++ (_ :: _ :: _ :: _ :: _ :: _ :: F))) from gB)
    have g9 := ((((((((gB.perm (zAa B M159 _)).perm (zAa M159 B _)).perm ((List.Perm.append_left B ((List.Perm.append_left M159 (zAa [_,_,_,_,_] [_] _)).trans (zAa M159 [_] _))).trans (zAa B [_] _))).perm ((List.Perm.append_left [_] ((List.Perm.append_left B ((List.Perm.append_left M159 (zAa [_,_,_,_] [_] _)).trans (zAa M159 [_] _))).trans (zAa B [_] _))).trans (zAa [_] [_] _))).perm ((List.Perm.append_left [_,_] ((List.Perm.append_left B ((List.Perm.append_left M159 (zAa [_,_,_] [_] _)).trans (zAa M159 [_] _))).trans (zAa B [_] _))).trans (zAa [_,_] [_] _))).perm ((List.Perm.append_left [_,_,_] ((List.Perm.append_left B ((List.Perm.append_left M159 (zAa [_,_] [_] _)).trans (zAa M159 [_] _))).trans (zAa B [_] _))).trans (zAa [_,_,_] [_] _))).perm ((List.Perm.append_left [_,_,_,_] ((List.Perm.append_left B ((List.Perm.append_left M159 (zAa [_] [_] _)).trans (zAa M159 [_] _))).trans (zAa B [_] _))).trans (zAa [_,_,_,_] [_] _))).perm ((List.Perm.append_left [_,_,_,_,_] ((List.Perm.append_left B (zAa M159 [_] _)).trans (zAa B [_] _))).trans (zAa [_,_,_,_,_] [_] _)))
    replace g9 := (show St _ _ (_ :: _ :: _ :: _ :: _ :: _ :: B ++ (M159 ++ (F))) from g9)
    refine w_y rfl rfl rfl (zCv rfl rfl rfl rfl) rfl ?_
    refine w_p (zAv (v := .bool _) rfl rfl rfl rfl) rfl (zAe (zAd (gT _ _ (zA1 rfl rfl (fun gC => ?_) (fun gC => ?_)))))
    ·
     try simp only [zS] at gC
     refine zAc (w_p (zAi (v := v) rfl rfl) rfl (w_p (zAk isAgg3 g9 rfl rfl (zAl (i := 2) (vs := [_]) rfl rfl)) rfl (zA3 (ps := [(0, _)]) (pv := [(0, .int _ _)]) (cs := [_]) zAb rfl rfl (fun w => zHy _ w) g9 (fun kA kB jg => ?_))))
     refine zEf (X := (_ :: _ :: _ :: _ :: _ :: _ :: _ :: [])) (B := B) (rows := [[_]]) (sz := 1) (bytes := 8) zAb underlying35 zEb rfl rfl rfl rfl rfl rfl rfl rfl rfl jg hown (zBd (i := 0) rfl (by simp) rfl) rfl (by simp) (by simp [Value.oneCell']) (by simp only [maxLen]; omega) (by omega) (fun jh kC gV ji gD => ?_)
     replace gD := (show St _ _ (_ :: _ :: _ :: _ :: _ :: _ :: _ :: gV ++ (M159 ++ (F))) from gD)
     refine w_p (zAo (v := jh) rfl rfl) rfl (zAe (zAn (zAd (gy _ _ (zAc (w_p (zBq rfl rfl rfl rfl (by omega) (by omega)) rfl (zBe rfl rfl (zAe (zAd (gw _ _ (nxI (c.lots.length - (i + 1)) (by omega) ?_)))))))))))
     have gE := gD.tail.tail.tail.tail
     replace gE := (show St _ _ (_ :: _ :: _ :: gV ++ (M159 ++ (F))) from gE)
     exact ⟨i + 1, _,_, M159, rfl, by omega, rfl, by rw [firstT_yes hi2 (by assumption) (by assumption)]; exact zIa ji, gU, gE⟩
    try simp only [zS] at gC
    refine zAx (zAn (zAd (gy _ _ (zAc (w_p (zBq rfl rfl rfl rfl (by omega) (by omega)) rfl (zBe rfl rfl (zAe (zAd (gw _ _ (nxI (c.lots.length - (i + 1)) (by omega) ?_))))))))))
    have gF := g9.tail.tail.tail
    replace gF := (show St _ _ (_ :: _ :: _ :: B ++ (M159 ++ (F))) from gF)
    exact ⟨i + 1, v, B, M159, rfl, by omega, rfl, by rw [firstT_no hi2 (by first | exact .inl (by assumption) | exact .inr (by assumption))]; exact hown, gU, gF⟩
   try simp only [zS] at gz
   refine zAj rfl rfl rfl ?_
   refine zAj rfl rfl rfl ?_
   refine zAj rfl rfl rfl ?_
   refine zAj rfl rfl rfl ?_
   refine zAj rfl rfl rfl ?_
   refine w_p (zBg (v := _) rfl rfl rfl rfl) rfl (zAe (zAd (gT _ _ (zB7 rfl rfl ?_))))
   refine zAx (zAn (zAd (gy _ _ (zAc (w_p (zBq rfl rfl rfl rfl (by omega) (by omega)) rfl (zBe rfl rfl (zAe (zAd (gw _ _ (nxI (c.lots.length - (i + 1)) (by omega) ?_))))))))))
   have gG := g8.tail.tail.tail
   replace gG := (show St _ _ (_ :: _ :: _ :: B ++ (M ++ (F))) from gG)
   exact ⟨i + 1, v, B, M, rfl, by omega, rfl, by rw [firstT_no hi2 (by first | exact .inl (by assumption) | exact .inr (by assumption))]; exact hown, hM, gG⟩
  try simp only [zS] at gx
  refine zBy (zAq (zAq (zBc (zAd (j4 _ _ (zAg (fun kD jj => (zAc (w_p (zAi (v := v) rfl rfl) rfl (w_p (zAo (v := v) rfl rfl) rfl ?_))))))))))
  refine zBj rfl rfl (zAe (zAd (jj _ _ (zA7 (zBa (l := [.tmp 4, .tmp 5]) (vs := [_,_]) rfl ⟨⟨rfl, show _ = (v : Value) from rfl⟩, ⟨rfl, (rfl : _ = Value.int _ _)⟩, trivial⟩ ?_)))))
  have hin : i = c.lots.length := by omega
  subst hin
  obtain ⟨a9, c9, rfl, hsl9, _⟩ := zG5 (w0 := w0) hown
  exact ⟨B, a9, c9, by rw [firstP_y hee]; rfl, by rw [firstP_y hee]; exact hsl9, kq_opq hs.tail.tail.tail⟩

theorem zGl {s : List Int} (h : SOk s) (m : Nat) : SOk (without s m) := by
  have h1 := h.tt
  have h2 := bitDiff_le (tt s) m (by omega)
  exact sok_set7 h (by omega)
theorem c58 {w0 w : World} {X M F : List (Nat × Obj)} (c : Cargo) (p : AtT) (cb mm : Nat) (hk : CK w0 F c p 0 cb mm) (a b : Nat) (ha4 : a < 5) (hb4 : b < 5) (b4 b8 b5 : Nat) (h4 : Ats w0 F b4 0 [.int .i64 (a : Int)]) (h8 : Ats w0 F b8 0 [.pointer (some ⟨cb, 0, none⟩)]) (h5 : Ats w0 F b5 0 [.int .i64 (b : Int)]) (s : List Int) (hso : SOk s) (hM : Memo c mm M) (hs : St w0 w (X ++ (M ++ F))) :
  Con Tryz.prog 58 [ia s, ia (times c s), .pointer (some ⟨b4,0, none⟩), .pointer (some ⟨b8,0, none⟩), .pointer (some ⟨b5,0, none⟩)] w fun v w' => v = .bool (spoilsQ c a b s) ∧ ∃ M', Memo c mm M' ∧ St w0 w' (X ++ (M' ++ F)) := by
  refine zAu (n := 23) func58 rfl rfl (zNl rfl) ?_
  have hls := hso.len
  have htl := zBf c s
  have htt := hso.tt
  have hsh := shl5 ha4
  have hwl := (zGl hso (1 <<< a)).len
  have htw := zBf c (without s (1 <<< a))
  refine zAg (fun K2 g6 => (zAc (zDu (l := _) zAb rfl rfl rfl hs (fun b3 w4 g7 => ?_))))
  refine zDu (l := _) zAb rfl rfl rfl g7 (fun b6 w7 g8 => ?_)
  refine zBj rfl rfl (zAe (zAd (g6 _ _ (zAg (fun gc g9 => (zCe [6] [(0,0),(1,1),(2,1),(3,0),(4,0),(5,0),(6,3)] zB0 (zB5 (by kernel_rfl)) g8 (fun gd g4 => ?_)))))))
  refine d_w rfl (fun _ => zAf (o := 7) (i := 3) underlying79 rfl sizeOf3 rfl rfl rfl) rfl ?_
  refine zBb rfl zAb rfl g4 (fun _ hq => (zAk isAgg3 hq rfl rfl (zD5 (i := 1) (o := 7) rfl (by first | omega | rfl | (simp only [hls, zBf, zL] <;> omega))))) ?_
  refine zBb rfl zAb rfl g4 (fun _ hq => (zAk isAgg3 hq.tail.tail.drop.drop rfl rfl h4)) ?_
  refine d_w rfl (fun _ => y_shl (x := 1) (y := a) rfl rfl rfl rfl rfl (by first | rfl | omega) (by first | omega | exact zDe (by omega)) (by first | omega | exact zDe (by omega))) rfl ?_
  refine d_w rfl (fun _ => y_andNot (x := tt s) (y := 1 <<< a) rfl rfl rfl rfl (by first | rfl | omega) (by first | rfl | omega) (by first | omega | exact zDe (by omega))) rfl ?_
  refine d_w rfl (fun _ => zAf (o := 7) (i := 3) underlying79 rfl sizeOf3 rfl rfl rfl) rfl ?_
  refine zBm rfl ?_
  refine zEp (i := 1) (o := 7) zAb sizeOf3 rfl rfl rfl rfl g4 rfl (by first | omega | rfl | (simp only [hls, zBf, zL] <;> omega)) (fun ge ga => ?_)
  refine zAe (qn ?_)
  refine zBh ?_
  refine zAd (g9 _ _ (zAg (fun gf gb => (w_drawC (C := fun w => ∃ M, Memo c mm M ∧ St w0 w ((b6, blk 77 (iv (times c s))) :: (b3, blk 79 (iv (without s (1 <<< a)))) :: (X ++ (M ++ F)))) [] [(0,1),(1,1),(3,1),(5,1),(6,0),(7,1),(2,2),(4,0),(8,0),(9,0)] zB0 (zB5 (by kernel_rfl)) ⟨_, hM, ga⟩ (fun _ ⟨M, h1, h2⟩ => ⟨M, h1, h2.drew⟩) (fun gg ⟨M, hM, g0⟩ => ?_)))))
  refine zCn rfl zAb rfl ⟨_, hM, g0⟩ (fun _ ⟨M, hM, hq⟩ => (zAk isAgg69 hq.tail.tail.drop.drop rfl rfl h8)) ?_
  refine zCn rfl zAb rfl ⟨_, hM, g0⟩ (fun _ ⟨M, hM, hq⟩ => (zBz (i := 1) isAgg79 sizeOf79 (by first | omega | rfl | (simp only [hls, zBf, zL] <;> omega)) hq rfl rfl rfl)) ?_
  refine zCn rfl zAb rfl ⟨_, hM, g0⟩ (fun _ ⟨M, hM, hq⟩ => (zAk isAgg3 hq.tail.tail.drop.drop rfl rfl h5)) ?_
  refine zCn rfl zAb rfl ⟨_, hM, g0⟩ (fun _ ⟨M, hM, hq⟩ => (zAk isAgg3 hq.tail.tail.drop.drop rfl rfl h5)) ?_
  refine d_w rfl (fun _ => zCb underlying77 sizeOf3 rfl rfl rfl rfl (i := b) (by first | rfl | omega) (by omega)) rfl ?_
  refine zCn rfl zAb rfl ⟨_, hM, g0⟩ (fun _ ⟨M, hM, hq⟩ => (zAk isAgg3 hq rfl rfl (zCy (i := 0) (j := b) rfl (by first | omega | rfl | (simp only [hls, zBf, zL] <;> omega))))) ?_
  refine zBl rfl ?_
  refine zAr zAb call59 rfl rfl rfl rfl (zFr (X := _ :: _ :: X) (M := M) c p 0 cb mm hk _ (zGl hso (1 <<< a)) hM g0) ?_
  rintro _ gh ⟨M2, rfl, g5, g3⟩
  replace g3 := (show St _ _ (_ :: _ :: X ++ (M2 ++ (F))) from g3)
  refine zAe (qn ⟨⟨_, g5, g3⟩, ?_⟩)
  refine d_w rfl (fun _ => y_indexV (i := b) underlying77 underlying3 sizeOf3 rfl rfl rfl rfl rfl rfl (by omega) (by first | omega | rfl | (simp only [hls, zBf, zL] <;> omega))) rfl ?_
  refine d_w rfl (fun _ => zEt rfl rfl rfl rfl) rfl ?_
  refine d_w rfl (fun _ => zAo (v := .bool _) rfl rfl) rfl ?_
  refine zBh ?_
  refine zAd (gb _ _ (zA7 (zBa (l := [.tmp 7]) (vs := [_]) rfl ⟨⟨rfl, (rfl : _ = Value.bool _)⟩, trivial⟩ ?_)))
  exact ⟨rfl, M2, g5, g3.tail.tail⟩

theorem spoils_qis {w0 : World} {F : List (Nat × Obj)} (c : Cargo) (p : AtT) (cb mm : Nat) (hk : CK w0 F c p 0 cb mm) (hco : c.Ok) (hold : Nat) (hh : hold < c.holds.length) (a b : Nat) (ha4 : a < 5) (hb4 : b < 5) (b4 b8 b5 : Nat) (h4 : Ats w0 F b4 0 [.int .i64 (a : Int)]) (h8 : Ats w0 F b8 0 [.pointer (some ⟨cb, 0, none⟩)]) (h5 : Ats w0 F b5 0 [.int .i64 (b : Int)]) : QIs w0 F c mm hold (.func (.func 58) #[] #[.pointer (some ⟨b4,0, none⟩), .pointer (some ⟨b8,0, none⟩), .pointer (some ⟨b5,0, none⟩)]) (spoilsQ c a b) (fun i B => B = []) := by
  intro i hi B M X w hB hM hs
  subst hB
  refine (zDw call58 (c58 (X := X) (M := M) (F := F) c p cb mm hk a b ha4 hb4 b4 b8 b5 h4 h8 h5 _ (zDz hco hh (List.getElem_mem hi)).1 hM hs)).mono ?_
  rintro v w' ⟨rfl, M', hM', g0⟩
  exact ⟨rfl, [], M', rfl, hM', g0⟩
theorem c27 {w0 w : World} {F : List (Nat × Obj)} (c : Cargo) (p : AtT) (hm : TIn w0 F c p) (a b : Int) (hs : St w0 w F) :
  Con Tryz.prog 27 [.agg (c.cells p).toArray, .int .i64 a, .int .i64 b] w fun v w' => v = .tuple #[.int .i64 (spoilsP c a b).1, .int .i64 (spoilsP c a b).2] ∧ St w0 w' F := by
  refine zAu (n := 40) func27 rfl rfl (zNl rfl) ?_
  have hll0 := hm.ll
  refine zAg (fun K2 gK => (zAc (zCj (v := .agg #[.slice _ _ _, .int _ _, .slice _ _ _, .slice _ _ _, .slice _ _ _]) (cs := [_,_,_,_,_]) zAb rfl rfl rfl hs (fun b3 w4 gL => ?_))))
  refine zCj (v := .int _ _) (cs := [_]) zAb rfl rfl rfl gL (fun b6 w7 gM => ?_)
  refine zCj (v := .int _ _) (cs := [_]) zAb rfl rfl rfl gM (fun b9 hO gN => ?_)
  refine zBj rfl rfl (zBj rfl rfl (zAe (zAd (gK _ _ (zAg (fun hP gy => (w_cut [8,9,10,11,12,13,14,15,16,17,18,19,20,21,22,23,24,25,26] [9,8] (fun vs w => ∃ bc, (¬ enterE c (spoilsL c a b) = 0 ∧ vs = [.int .i64 (enterE c (spoilsL c a b)), .pointer (some ⟨bc, 0, none⟩)] ∧ St w0 w ((b9, blk 3 [.int .i64 b]) :: (b6, blk 3 [.int .i64 a]) :: (b3, blk 42 (c.cells p)) :: F)) ∨ (enterE c (spoilsL c a b) = 0 ∧ ∃ cb mm M, vs = [.int .i64 0, .pointer (some ⟨bc, 0, none⟩)] ∧ Memo c mm M ∧ St w0 w ((cb, blk 132 [.slice p.ae c.heat.length p.ce, .int .i64 c.gas, .slice p.ah c.holds.length p.ch, .slice p.al c.lots.length p.cl, .slice p.an c.seen.length p.cn, .int .i64 ((0 : Nat) : Int), .map (some mm)]) :: (bc, blk 69 [.pointer (some ⟨cb, 0, none⟩)]) :: (b9, blk 3 [.int .i64 b]) :: (b6, blk 3 [.int .i64 a]) :: (b3, blk 42 (c.cells p)) :: (M ++ F)))) (fun hX g0 => ?_) ?_)))))))
  ·
   refine w_drawT (C := fun w => St w0 w _) [18] (.two [(0,1),(1,0),(2,1),(3,0),(4,1),(5,1),(8,1),(9,1),(10,0),(11,0)] 6 17 (.two [] 7 17 (.two [] 12 17 (.two [] 13 17 (.done [(14,0),(15,0),(16,0),(17,2),(18,3),(19,0)]) (.done [(13,2),(14,0),(15,0),(16,0),(18,3),(19,0)])) (.done [(12,2),(13,2),(14,0),(15,0),(16,0),(18,3),(19,0)])) (.done [(7,2),(12,2),(13,2),(14,0),(15,0),(16,0),(18,3),(19,0)])) (.done [(6,2),(7,2),(12,2),(13,2),(14,0),(15,0),(16,0),(18,3),(19,0)])) zB0 (by kernel_rfl) gN (fun _ h => h.drew) (fun hY g7 => ?_)
   refine zFa ?_
   refine zBb rfl zAb rfl g7 (fun _ hq => (zA9 (vs := [_,_,_,_,_]) isAgg42 sizeOf42 hq rfl rfl (zAl (i := 2) (vs := [_,_,_,_,_]) rfl rfl))) ?_
   refine d_w rfl (fun _ => zAf (o := 3) (i := 3) underlying42 rfl sizeOf39 rfl rfl rfl) rfl ?_
   refine zBb rfl zAb rfl g7 (fun _ hq => (zAk isAgg39 hq rfl rfl (zAl (i := 2) (vs := [_]) rfl rfl))) ?_
   refine d_w rfl (fun _ => zBo underlying39 rfl rfl) rfl ?_
   refine zBb rfl zAb rfl g7 (fun _ hq => (zAk isAgg3 hq rfl rfl (zAl (i := 1) (vs := [_]) rfl rfl))) ?_
   refine zBb rfl zAb rfl g7 (fun _ hq => (zAk isAgg3 hq rfl rfl (zAl (i := 0) (vs := [_]) rfl rfl))) ?_
   refine zBb rfl zAb rfl g7 (fun _ hq => (zAk isAgg3 hq rfl rfl (zAl (i := 1) (vs := [_]) rfl rfl))) ?_
   refine zBb rfl zAb rfl g7 (fun _ hq => (zAk isAgg3 hq rfl rfl (zAl (i := 0) (vs := [_]) rfl rfl))) ?_
   refine d_w rfl (fun _ => zB3 rfl rfl rfl rfl) rfl ?_
   refine d_w rfl (fun _ => zBx (ps := [(0, _),(1, _)]) (pv := [(0, .bool _),(1, .int _ _)]) rfl rfl (fun w => Try_UK_fb4 _ _ w)) rfl ?_
   refine zHu rfl rfl ?_ ?_
   ·
    refine zA3 (ps := [(0, _),(1, _)]) (pv := [(0, .int _ _),(1, .int _ _)]) (cs := [_,_]) zAb rfl rfl (fun w => Try_UK_fb5 _ _ w) g7 (fun j0 j1 gd => ?_)
    refine zAe (qn ⟨gd.tail, ?_⟩)
    refine zFa ?_
    refine zHu rfl rfl ?_ ?_
    ·
     refine zAr zAb call39 rfl rfl rfl rfl (c39 _ (by omega) _ _ [_,_] (by simp) (zBd (i := 0) (rows := [[_], [_]]) rfl (by simp) rfl) gd) ?_
     rintro _ j2 ⟨rfl, ge⟩
     refine zAe (qn ⟨ge.tail, ?_⟩)
     refine zFa ?_
     refine zHu rfl rfl ?_ ?_
     ·
      refine zA3 (ps := [(0, _),(1, _)]) (pv := [(0, .agg #[.bool _, .int _ _]),(1, .agg #[.bool _, .int _ _])]) (cs := [_,_,_,_]) zAb rfl rfl (fun w => zGa _ _ _ _ w) ge (fun j3 j4 gf => ?_)
      refine zAe (qn ⟨gf.tail.tail, ?_⟩)
      refine zFa ?_
      refine zHu rfl rfl ?_ ?_
      ·
       refine zAr zAb call32 rfl rfl rfl rfl (c32 c _ hm.cons.cons.cons.cons.cons _ _ (spoilsL c a b) (by simp [spoilsL, putL, outL]) (fun x hx _ => by simp only [spoilsL, List.mem_cons, List.not_mem_nil, or_false] at hx; rcases hx with rfl | rfl <;> simp [noneA]) (zBd (i := 0) (rows := (arows (spoilsL c a b))) rfl (fun row h => by obtain ⟨x, _, rfl⟩ := List.mem_map.1 h; rfl) rfl) gf) ?_
       rintro _ j5 (⟨hee, rfl, g8⟩ | ⟨hee, cb, mm, M, rfl, hM, g8⟩)
       ·
        refine zAe (qn ⟨g8.tail.tail, ?_⟩)
        refine zDg ?_
        refine d_w rfl (fun _ => zAi (v := .tuple _) rfl rfl) rfl ?_
        refine d_w rfl (fun _ => zAh (v := .pointer _) rfl rfl rfl) rfl ?_
        refine d_w rfl (fun _ => zAh (v := .int _ _) rfl rfl rfl) rfl ?_
        refine zBl rfl ?_
        refine zA0 (cs := [_]) zAb zeroValue69 rfl g8 (fun j6 j7 ga => ?_)
        refine zAe (qn ⟨ga.tail.tail.tail, ?_⟩)
        replace ga := (show St _ _ (_ :: _ :: _ :: _ :: _ :: _ :: F) from ga)
        refine zBm rfl ?_
        refine zAs (i := 0) (v := .pointer _) (vs := [_]) zAb sizeOf69 rfl rfl rfl rfl rfl (by simp [Value.oneCell']) ga rfl (zNl rfl) (fun j8 gO => ?_)
        refine zAe (qn ?_)
        refine d_w rfl (fun _ => zA2 rfl rfl) rfl ?_
        refine zBh ?_
        refine zAd (g0 _ _ (Md.intro (by repeat (first | exact zAz | exact zA5 | refine zA4 rfl ?_ | refine zAw rfl ?_ _ | refine zAt rfl ?_)) ?_))
        have gg := gO.tail.tail.tail
        replace gg := (show St _ _ (_ :: _ :: _ :: F) from gg)
        exact ⟨_, .inl ⟨hee, rfl, gg⟩⟩
       replace g8 := (show St _ _ (M ++ (_ :: _ :: _ :: _ :: _ :: _ :: F)) from g8)
       refine zAe (qn ⟨g8.drop.tail.tail.tail, ?_⟩)
       refine zDg ?_
       refine d_w rfl (fun _ => zAi (v := .tuple _) rfl rfl) rfl ?_
       refine d_w rfl (fun _ => zAh (v := .pointer _) rfl rfl rfl) rfl ?_
       refine d_w rfl (fun _ => zAh (v := .int _ _) rfl rfl rfl) rfl ?_
       refine zBl rfl ?_
       refine zA0 (cs := [_]) zAb zeroValue69 rfl g8 (fun j9 ja gz => ?_)
       refine zAe (qn ⟨gz.tail.drop.tail.tail.tail, ?_⟩)
       have gh := ((((((((gz.perm (zAa [_] M _)).perm ((List.Perm.append_left M (zAa [_,_,_,_,_,_] [_] _)).trans (zAa M [_] _))).perm ((List.Perm.append_left [_] ((List.Perm.append_left M (zAa [_,_,_,_,_] [_] _)).trans (zAa M [_] _))).trans (zAa [_] [_] _))).perm ((List.Perm.append_left [_,_] ((List.Perm.append_left M (zAa [_,_,_,_] [_] _)).trans (zAa M [_] _))).trans (zAa [_,_] [_] _))).perm ((List.Perm.append_left [_,_,_] ((List.Perm.append_left M (zAa [_,_,_] [_] _)).trans (zAa M [_] _))).trans (zAa [_,_,_] [_] _))).perm ((List.Perm.append_left [_,_,_,_] ((List.Perm.append_left M (zAa [_,_] [_] _)).trans (zAa M [_] _))).trans (zAa [_,_,_,_] [_] _))).perm ((List.Perm.append_left [_,_,_,_,_] ((List.Perm.append_left M (zAa [_] [_] _)).trans (zAa M [_] _))).trans (zAa [_,_,_,_,_] [_] _))).perm ((List.Perm.append_left [_,_,_,_,_,_] (zAa M [_] _)).trans (zAa [_,_,_,_,_,_] [_] _)))
       replace gh := (show St _ _ (_ :: _ :: _ :: _ :: _ :: _ :: _ :: M ++ (F)) from gh)
       refine zBm rfl ?_
       refine zAs (i := 0) (v := .pointer _) (vs := [_]) zAb sizeOf69 rfl rfl rfl rfl rfl (by simp [Value.oneCell']) gh rfl (zNl rfl) (fun jb gP => ?_)
       refine zAe (qn ?_)
       refine d_w rfl (fun _ => zA2 rfl rfl) rfl ?_
       refine zBh ?_
       refine zAd (g0 _ _ (Md.intro (by repeat (first | exact zAz | exact zA5 | refine zA4 rfl ?_ | refine zAw rfl ?_ _ | refine zAt rfl ?_)) ?_))
       have gi := ((((((((gP.perm (zAa [_,_] [_] _)).tail.perm (zAa [_,_] [_] _)).tail.perm (zAa [_,_,_,_,_] M _)).perm ((List.Perm.append_left M (zAa [_,_,_,_] [_] _)).trans (zAa M [_] _))).perm ((List.Perm.append_left [_] ((List.Perm.append_left M (zAa [_,_,_] [_] _)).trans (zAa M [_] _))).trans (zAa [_] [_] _))).perm ((List.Perm.append_left [_,_] ((List.Perm.append_left M (zAa [_,_] [_] _)).trans (zAa M [_] _))).trans (zAa [_,_] [_] _))).perm ((List.Perm.append_left [_,_,_] (zAa M [_] _)).trans (zAa [_,_,_] [_] _))).perm ((List.Perm.append_left [_,_,_,_] (zAa M [_] _)).trans (zAa [_,_,_,_] [_] _)))
       replace gi := (show St _ _ (_ :: _ :: _ :: _ :: _ :: M ++ (F)) from gi)
       exact ⟨_, .inr ⟨hee, cb, mm, M, rfl, hM, gi⟩⟩
      refine zA0 (cs := [_]) zAb zeroValue69 rfl gf (fun jc jd gA => ?_)
      refine zAe (qn ⟨gA.tail.tail.tail, ?_⟩)
      refine zDg ?_
      refine zBl rfl ?_
      refine zAr zAb call32 rfl rfl rfl rfl (c32 c _ hm.cons.cons.cons.cons.cons.cons _ _ (spoilsL c a b) (by simp [spoilsL, putL, outL]) (fun x hx _ => by simp only [spoilsL, List.mem_cons, List.not_mem_nil, or_false] at hx; rcases hx with rfl | rfl <;> simp [noneA]) (zBd (i := 1) (rows := (arows (spoilsL c a b))) rfl (fun row h => by obtain ⟨x, _, rfl⟩ := List.mem_map.1 h; rfl) rfl) gA) ?_
      rintro _ je (⟨hee, rfl, g3⟩ | ⟨hee, cb, mm, M, rfl, hM, g3⟩)
      ·
       refine zAe (qn ⟨g3.tail.tail.tail, ?_⟩)
       refine d_w rfl (fun _ => zAi (v := .tuple _) rfl rfl) rfl ?_
       refine d_w rfl (fun _ => zAh (v := .pointer _) rfl rfl rfl) rfl ?_
       refine d_w rfl (fun _ => zAh (v := .int _ _) rfl rfl rfl) rfl ?_
       replace g3 := (show St _ _ (_ :: _ :: _ :: _ :: _ :: _ :: F) from g3)
       refine zBm rfl ?_
       refine zAs (i := 0) (v := .pointer _) (vs := [_]) zAb sizeOf69 rfl rfl rfl rfl rfl (by simp [Value.oneCell']) g3 rfl (zNl rfl) (fun jf gQ => ?_)
       refine zAe (qn ?_)
       refine d_w rfl (fun _ => zA2 rfl rfl) rfl ?_
       refine zBh ?_
       refine zAd (g0 _ _ (Md.intro (by repeat (first | exact zAz | exact zA5 | refine zA4 rfl ?_ | refine zAw rfl ?_ _ | refine zAt rfl ?_)) ?_))
       have gj := gQ.tail.tail.tail
       replace gj := (show St _ _ (_ :: _ :: _ :: F) from gj)
       exact ⟨_, .inl ⟨hee, rfl, gj⟩⟩
      replace g3 := (show St _ _ (M ++ (_ :: _ :: _ :: _ :: _ :: _ :: _ :: F)) from g3)
      refine zAe (qn ⟨g3.drop.tail.tail.tail.tail, ?_⟩)
      refine d_w rfl (fun _ => zAi (v := .tuple _) rfl rfl) rfl ?_
      refine d_w rfl (fun _ => zAh (v := .pointer _) rfl rfl rfl) rfl ?_
      refine d_w rfl (fun _ => zAh (v := .int _ _) rfl rfl rfl) rfl ?_
      have gk := (((((((g3.perm ((List.Perm.append_left M (zAa [_,_,_,_,_,_] [_] _)).trans (zAa M [_] _))).perm ((List.Perm.append_left [_] ((List.Perm.append_left M (zAa [_,_,_,_,_] [_] _)).trans (zAa M [_] _))).trans (zAa [_] [_] _))).perm ((List.Perm.append_left [_,_] ((List.Perm.append_left M (zAa [_,_,_,_] [_] _)).trans (zAa M [_] _))).trans (zAa [_,_] [_] _))).perm ((List.Perm.append_left [_,_,_] ((List.Perm.append_left M (zAa [_,_,_] [_] _)).trans (zAa M [_] _))).trans (zAa [_,_,_] [_] _))).perm ((List.Perm.append_left [_,_,_,_] ((List.Perm.append_left M (zAa [_,_] [_] _)).trans (zAa M [_] _))).trans (zAa [_,_,_,_] [_] _))).perm ((List.Perm.append_left [_,_,_,_,_] ((List.Perm.append_left M (zAa [_] [_] _)).trans (zAa M [_] _))).trans (zAa [_,_,_,_,_] [_] _))).perm ((List.Perm.append_left [_,_,_,_,_,_] (zAa M [_] _)).trans (zAa [_,_,_,_,_,_] [_] _)))
      replace gk := (show St _ _ (_ :: _ :: _ :: _ :: _ :: _ :: _ :: M ++ (F)) from gk)
      refine zBm rfl ?_
      refine zAs (i := 1) (v := .pointer _) (vs := [_]) zAb sizeOf69 rfl rfl rfl rfl rfl (by simp [Value.oneCell']) gk rfl (zNl rfl) (fun jg gR => ?_)
      refine zAe (qn ?_)
      refine d_w rfl (fun _ => zA2 rfl rfl) rfl ?_
      refine zBh ?_
      refine zAd (g0 _ _ (Md.intro (by repeat (first | exact zAz | exact zA5 | refine zA4 rfl ?_ | refine zAw rfl ?_ _ | refine zAt rfl ?_)) ?_))
      have gl := ((gR.perm (zAa [_,_] [_] _)).tail.perm (zAa [_,_] [_] _)).tail
      replace gl := (show St _ _ (_ :: _ :: _ :: _ :: _ :: M ++ (F)) from gl)
      exact ⟨_, .inr ⟨hee, cb, mm, M, rfl, hM, gl⟩⟩
     refine zA0 (cs := [_]) zAb zeroValue69 rfl ge (fun jh ji gB => ?_)
     refine zAe (qn ⟨gB.tail.tail, ?_⟩)
     refine zDg ?_
     refine zBl rfl ?_
     refine zA3 (ps := [(0, _),(1, _)]) (pv := [(0, .agg #[.bool _, .int _ _]),(1, .agg #[.bool _, .int _ _])]) (cs := [_,_,_,_]) zAb rfl rfl (fun w => zGa _ _ _ _ w) gB (fun jj jk gC => ?_)
     refine zAe (qn ⟨gC.tail.tail.tail, ?_⟩)
     refine zBl rfl ?_
     refine zAr zAb call32 rfl rfl rfl rfl (c32 c _ hm.cons.cons.cons.cons.cons.cons _ _ (spoilsL c a b) (by simp [spoilsL, putL, outL]) (fun x hx _ => by simp only [spoilsL, List.mem_cons, List.not_mem_nil, or_false] at hx; rcases hx with rfl | rfl <;> simp [noneA]) (zBd (i := 0) (rows := (arows (spoilsL c a b))) rfl (fun row h => by obtain ⟨x, _, rfl⟩ := List.mem_map.1 h; rfl) rfl) gC) ?_
     rintro _ jl (⟨hee, rfl, g4⟩ | ⟨hee, cb, mm, M, rfl, hM, g4⟩)
     ·
      refine zAe (qn ⟨g4.tail.tail.tail, ?_⟩)
      refine d_w rfl (fun _ => zAi (v := .tuple _) rfl rfl) rfl ?_
      refine d_w rfl (fun _ => zAh (v := .pointer _) rfl rfl rfl) rfl ?_
      refine d_w rfl (fun _ => zAh (v := .int _ _) rfl rfl rfl) rfl ?_
      replace g4 := (show St _ _ (_ :: _ :: _ :: _ :: _ :: _ :: F) from g4)
      refine zBm rfl ?_
      refine zAs (i := 1) (v := .pointer _) (vs := [_]) zAb sizeOf69 rfl rfl rfl rfl rfl (by simp [Value.oneCell']) g4 rfl (zNl rfl) (fun jm gS => ?_)
      refine zAe (qn ?_)
      refine d_w rfl (fun _ => zA2 rfl rfl) rfl ?_
      refine zBh ?_
      refine zAd (g0 _ _ (Md.intro (by repeat (first | exact zAz | exact zA5 | refine zA4 rfl ?_ | refine zAw rfl ?_ _ | refine zAt rfl ?_)) ?_))
      have gm := gS.tail.tail.tail
      replace gm := (show St _ _ (_ :: _ :: _ :: F) from gm)
      exact ⟨_, .inl ⟨hee, rfl, gm⟩⟩
     replace g4 := (show St _ _ (M ++ (_ :: _ :: _ :: _ :: _ :: _ :: _ :: F)) from g4)
     refine zAe (qn ⟨g4.drop.tail.tail.tail.tail, ?_⟩)
     refine d_w rfl (fun _ => zAi (v := .tuple _) rfl rfl) rfl ?_
     refine d_w rfl (fun _ => zAh (v := .pointer _) rfl rfl rfl) rfl ?_
     refine d_w rfl (fun _ => zAh (v := .int _ _) rfl rfl rfl) rfl ?_
     have gn := (((((((g4.perm ((List.Perm.append_left M (zAa [_,_,_,_,_,_] [_] _)).trans (zAa M [_] _))).perm ((List.Perm.append_left [_] ((List.Perm.append_left M (zAa [_,_,_,_,_] [_] _)).trans (zAa M [_] _))).trans (zAa [_] [_] _))).perm ((List.Perm.append_left [_,_] ((List.Perm.append_left M (zAa [_,_,_,_] [_] _)).trans (zAa M [_] _))).trans (zAa [_,_] [_] _))).perm ((List.Perm.append_left [_,_,_] ((List.Perm.append_left M (zAa [_,_,_] [_] _)).trans (zAa M [_] _))).trans (zAa [_,_,_] [_] _))).perm ((List.Perm.append_left [_,_,_,_] ((List.Perm.append_left M (zAa [_,_] [_] _)).trans (zAa M [_] _))).trans (zAa [_,_,_,_] [_] _))).perm ((List.Perm.append_left [_,_,_,_,_] ((List.Perm.append_left M (zAa [_] [_] _)).trans (zAa M [_] _))).trans (zAa [_,_,_,_,_] [_] _))).perm ((List.Perm.append_left [_,_,_,_,_,_] (zAa M [_] _)).trans (zAa [_,_,_,_,_,_] [_] _)))
     replace gn := (show St _ _ (_ :: _ :: _ :: _ :: _ :: _ :: _ :: M ++ (F)) from gn)
     refine zBm rfl ?_
     refine zAs (i := 2) (v := .pointer _) (vs := [_]) zAb sizeOf69 rfl rfl rfl rfl rfl (by simp [Value.oneCell']) gn rfl (zNl rfl) (fun jn gT => ?_)
     refine zAe (qn ?_)
     refine d_w rfl (fun _ => zA2 rfl rfl) rfl ?_
     refine zBh ?_
     refine zAd (g0 _ _ (Md.intro (by repeat (first | exact zAz | exact zA5 | refine zA4 rfl ?_ | refine zAw rfl ?_ _ | refine zAt rfl ?_)) ?_))
     have go := ((gT.perm (zAa [_] [_] _)).tail.perm (zAa [_,_] [_] _)).tail
     replace go := (show St _ _ (_ :: _ :: _ :: _ :: _ :: M ++ (F)) from go)
     exact ⟨_, .inr ⟨hee, cb, mm, M, rfl, hM, go⟩⟩
    refine zA0 (cs := [_]) zAb zeroValue69 rfl gd (fun jo jp gD => ?_)
    refine zAe (qn ⟨gD.tail.tail, ?_⟩)
    refine zDg ?_
    refine zBl rfl ?_
    refine zAr zAb call39 rfl rfl rfl rfl (c39 _ (by omega) _ _ [_,_] (by simp) (zBd (i := 1) (rows := [[_], [_]]) rfl (by simp) rfl) gD) ?_
    rintro _ jq ⟨rfl, gE⟩
    refine zAe (qn ⟨gE.tail.tail, ?_⟩)
    refine zBl rfl ?_
    refine zA3 (ps := [(0, _),(1, _)]) (pv := [(0, .agg #[.bool _, .int _ _]),(1, .agg #[.bool _, .int _ _])]) (cs := [_,_,_,_]) zAb rfl rfl (fun w => zGa _ _ _ _ w) gE (fun jr js gF => ?_)
    refine zAe (qn ⟨gF.tail.tail.tail, ?_⟩)
    refine zBl rfl ?_
    refine zAr zAb call32 rfl rfl rfl rfl (c32 c _ hm.cons.cons.cons.cons.cons.cons _ _ (spoilsL c a b) (by simp [spoilsL, putL, outL]) (fun x hx _ => by simp only [spoilsL, List.mem_cons, List.not_mem_nil, or_false] at hx; rcases hx with rfl | rfl <;> simp [noneA]) (zBd (i := 0) (rows := (arows (spoilsL c a b))) rfl (fun row h => by obtain ⟨x, _, rfl⟩ := List.mem_map.1 h; rfl) rfl) gF) ?_
    rintro _ jt (⟨hee, rfl, g5⟩ | ⟨hee, cb, mm, M, rfl, hM, g5⟩)
    ·
     refine zAe (qn ⟨g5.tail.tail.tail, ?_⟩)
     refine d_w rfl (fun _ => zAi (v := .tuple _) rfl rfl) rfl ?_
     refine d_w rfl (fun _ => zAh (v := .pointer _) rfl rfl rfl) rfl ?_
     refine d_w rfl (fun _ => zAh (v := .int _ _) rfl rfl rfl) rfl ?_
     replace g5 := (show St _ _ (_ :: _ :: _ :: _ :: _ :: _ :: F) from g5)
     refine zBm rfl ?_
     refine zAs (i := 1) (v := .pointer _) (vs := [_]) zAb sizeOf69 rfl rfl rfl rfl rfl (by simp [Value.oneCell']) g5 rfl (zNl rfl) (fun ju gU => ?_)
     refine zAe (qn ?_)
     refine d_w rfl (fun _ => zA2 rfl rfl) rfl ?_
     refine zBh ?_
     refine zAd (g0 _ _ (Md.intro (by repeat (first | exact zAz | exact zA5 | refine zA4 rfl ?_ | refine zAw rfl ?_ _ | refine zAt rfl ?_)) ?_))
     have gp := gU.tail.tail.tail
     replace gp := (show St _ _ (_ :: _ :: _ :: F) from gp)
     exact ⟨_, .inl ⟨hee, rfl, gp⟩⟩
    replace g5 := (show St _ _ (M ++ (_ :: _ :: _ :: _ :: _ :: _ :: _ :: F)) from g5)
    refine zAe (qn ⟨g5.drop.tail.tail.tail.tail, ?_⟩)
    refine d_w rfl (fun _ => zAi (v := .tuple _) rfl rfl) rfl ?_
    refine d_w rfl (fun _ => zAh (v := .pointer _) rfl rfl rfl) rfl ?_
    refine d_w rfl (fun _ => zAh (v := .int _ _) rfl rfl rfl) rfl ?_
    have gq := (((((((g5.perm ((List.Perm.append_left M (zAa [_,_,_,_,_,_] [_] _)).trans (zAa M [_] _))).perm ((List.Perm.append_left [_] ((List.Perm.append_left M (zAa [_,_,_,_,_] [_] _)).trans (zAa M [_] _))).trans (zAa [_] [_] _))).perm ((List.Perm.append_left [_,_] ((List.Perm.append_left M (zAa [_,_,_,_] [_] _)).trans (zAa M [_] _))).trans (zAa [_,_] [_] _))).perm ((List.Perm.append_left [_,_,_] ((List.Perm.append_left M (zAa [_,_,_] [_] _)).trans (zAa M [_] _))).trans (zAa [_,_,_] [_] _))).perm ((List.Perm.append_left [_,_,_,_] ((List.Perm.append_left M (zAa [_,_] [_] _)).trans (zAa M [_] _))).trans (zAa [_,_,_,_] [_] _))).perm ((List.Perm.append_left [_,_,_,_,_] ((List.Perm.append_left M (zAa [_] [_] _)).trans (zAa M [_] _))).trans (zAa [_,_,_,_,_] [_] _))).perm ((List.Perm.append_left [_,_,_,_,_,_] (zAa M [_] _)).trans (zAa [_,_,_,_,_,_] [_] _)))
    replace gq := (show St _ _ (_ :: _ :: _ :: _ :: _ :: _ :: _ :: M ++ (F)) from gq)
    refine zBm rfl ?_
    refine zAs (i := 2) (v := .pointer _) (vs := [_]) zAb sizeOf69 rfl rfl rfl rfl rfl (by simp [Value.oneCell']) gq rfl (zNl rfl) (fun jv gV => ?_)
    refine zAe (qn ?_)
    refine d_w rfl (fun _ => zA2 rfl rfl) rfl ?_
    refine zBh ?_
    refine zAd (g0 _ _ (Md.intro (by repeat (first | exact zAz | exact zA5 | refine zA4 rfl ?_ | refine zAw rfl ?_ _ | refine zAt rfl ?_)) ?_))
    have gr := ((gV.perm (zAa [_] [_] _)).tail.perm (zAa [_,_] [_] _)).tail
    replace gr := (show St _ _ (_ :: _ :: _ :: _ :: _ :: M ++ (F)) from gr)
    exact ⟨_, .inr ⟨hee, cb, mm, M, rfl, hM, gr⟩⟩
   refine zA0 (cs := [_]) zAb zeroValue69 rfl g7 (fun jw jx gG => ?_)
   refine zAe (qn ⟨gG.tail, ?_⟩)
   refine zDg ?_
   refine zBl rfl ?_
   refine zA3 (ps := [(0, _),(1, _)]) (pv := [(0, .int _ _),(1, .int _ _)]) (cs := [_,_]) zAb rfl rfl (fun w => Try_UK_fb5 _ _ w) gG (fun jy jz gH => ?_)
   refine zAe (qn ⟨gH.tail.tail, ?_⟩)
   refine zBl rfl ?_
   refine zAr zAb call39 rfl rfl rfl rfl (c39 _ (by omega) _ _ [_,_] (by simp) (zBd (i := 0) (rows := [[_], [_]]) rfl (by simp) rfl) gH) ?_
   rintro _ jA ⟨rfl, gI⟩
   refine zAe (qn ⟨gI.tail.tail, ?_⟩)
   refine zBl rfl ?_
   refine zA3 (ps := [(0, _),(1, _)]) (pv := [(0, .agg #[.bool _, .int _ _]),(1, .agg #[.bool _, .int _ _])]) (cs := [_,_,_,_]) zAb rfl rfl (fun w => zGa _ _ _ _ w) gI (fun jB jC gJ => ?_)
   refine zAe (qn ⟨gJ.tail.tail.tail, ?_⟩)
   refine zBl rfl ?_
   refine zAr zAb call32 rfl rfl rfl rfl (c32 c _ hm.cons.cons.cons.cons.cons.cons _ _ (spoilsL c a b) (by simp [spoilsL, putL, outL]) (fun x hx _ => by simp only [spoilsL, List.mem_cons, List.not_mem_nil, or_false] at hx; rcases hx with rfl | rfl <;> simp [noneA]) (zBd (i := 0) (rows := (arows (spoilsL c a b))) rfl (fun row h => by obtain ⟨x, _, rfl⟩ := List.mem_map.1 h; rfl) rfl) gJ) ?_
   rintro _ jD (⟨hee, rfl, g6⟩ | ⟨hee, cb, mm, M, rfl, hM, g6⟩)
   ·
    refine zAe (qn ⟨g6.tail.tail.tail, ?_⟩)
    refine d_w rfl (fun _ => zAi (v := .tuple _) rfl rfl) rfl ?_
    refine d_w rfl (fun _ => zAh (v := .pointer _) rfl rfl rfl) rfl ?_
    refine d_w rfl (fun _ => zAh (v := .int _ _) rfl rfl rfl) rfl ?_
    replace g6 := (show St _ _ (_ :: _ :: _ :: _ :: _ :: _ :: F) from g6)
    refine zBm rfl ?_
    refine zAs (i := 2) (v := .pointer _) (vs := [_]) zAb sizeOf69 rfl rfl rfl rfl rfl (by simp [Value.oneCell']) g6 rfl (zNl rfl) (fun jE gW => ?_)
    refine zAe (qn ?_)
    refine d_w rfl (fun _ => zA2 rfl rfl) rfl ?_
    refine zBh ?_
    refine zAd (g0 _ _ (Md.intro (by repeat (first | exact zAz | exact zA5 | refine zA4 rfl ?_ | refine zAw rfl ?_ _ | refine zAt rfl ?_)) ?_))
    have gt := gW.tail.tail.tail
    replace gt := (show St _ _ (_ :: _ :: _ :: F) from gt)
    exact ⟨_, .inl ⟨hee, rfl, gt⟩⟩
   replace g6 := (show St _ _ (M ++ (_ :: _ :: _ :: _ :: _ :: _ :: _ :: F)) from g6)
   refine zAe (qn ⟨g6.drop.tail.tail.tail.tail, ?_⟩)
   refine d_w rfl (fun _ => zAi (v := .tuple _) rfl rfl) rfl ?_
   refine d_w rfl (fun _ => zAh (v := .pointer _) rfl rfl rfl) rfl ?_
   refine d_w rfl (fun _ => zAh (v := .int _ _) rfl rfl rfl) rfl ?_
   have gu := (((((((g6.perm ((List.Perm.append_left M (zAa [_,_,_,_,_,_] [_] _)).trans (zAa M [_] _))).perm ((List.Perm.append_left [_] ((List.Perm.append_left M (zAa [_,_,_,_,_] [_] _)).trans (zAa M [_] _))).trans (zAa [_] [_] _))).perm ((List.Perm.append_left [_,_] ((List.Perm.append_left M (zAa [_,_,_,_] [_] _)).trans (zAa M [_] _))).trans (zAa [_,_] [_] _))).perm ((List.Perm.append_left [_,_,_] ((List.Perm.append_left M (zAa [_,_,_] [_] _)).trans (zAa M [_] _))).trans (zAa [_,_,_] [_] _))).perm ((List.Perm.append_left [_,_,_,_] ((List.Perm.append_left M (zAa [_,_] [_] _)).trans (zAa M [_] _))).trans (zAa [_,_,_,_] [_] _))).perm ((List.Perm.append_left [_,_,_,_,_] ((List.Perm.append_left M (zAa [_] [_] _)).trans (zAa M [_] _))).trans (zAa [_,_,_,_,_] [_] _))).perm ((List.Perm.append_left [_,_,_,_,_,_] (zAa M [_] _)).trans (zAa [_,_,_,_,_,_] [_] _)))
   replace gu := (show St _ _ (_ :: _ :: _ :: _ :: _ :: _ :: _ :: M ++ (F)) from gu)
   refine zBm rfl ?_
   refine zAs (i := 3) (v := .pointer _) (vs := [_]) zAb sizeOf69 rfl rfl rfl rfl rfl (by simp [Value.oneCell']) gu rfl (zNl rfl) (fun jF gX => ?_)
   refine zAe (qn ?_)
   refine d_w rfl (fun _ => zA2 rfl rfl) rfl ?_
   refine zBh ?_
   refine zAd (g0 _ _ (Md.intro (by repeat (first | exact zAz | exact zA5 | refine zA4 rfl ?_ | refine zAw rfl ?_ _ | refine zAt rfl ?_)) ?_))
   have gv := ((gX.perm (zAa [_] [_] _)).tail.perm (zAa [_] [_] _)).tail
   replace gv := (show St _ _ (_ :: _ :: _ :: _ :: _ :: M ++ (F)) from gv)
   exact ⟨_, .inr ⟨hee, cb, mm, M, rfl, hM, gv⟩⟩
  intro vs μ jG hM
  clear hs
  obtain ⟨bc, hM⟩ := hM
  rcases hM with hM | hM
  ·
   obtain ⟨hee, rfl, hs⟩ := hM
   refine zAd (gy _ _ (zAg (fun jH jI => (zAg (fun jJ gY => (zAc (zBe rfl rfl (w_p (zCv rfl rfl rfl rfl) rfl (zAe (zAd (gY _ _ (zA1 rfl rfl (fun gb => ?_) (fun gb => ?_)))))))))))))
   ·
    try simp only [zS] at gb
    refine zAg (fun jK gZ => (zAc (zBe rfl rfl (zBj rfl rfl (zBs rfl rfl (zAe (zAd (gZ _ _ (zA7 (zAm (zBa (l := [.tmp 6, .tmp 7]) (vs := [_,_]) rfl ⟨⟨rfl, (rfl : _ = Value.int _ _)⟩, ⟨rfl, (rfl : _ = Value.int _ _)⟩, trivial⟩ ?_)))))))))))
    exact ⟨by rw [spoilsP_e hee]; rfl, hs.tail.tail.tail⟩
   exfalso
   try simp only [zS] at gb
   exact hee gb
  obtain ⟨hee, cb, mm, M, rfl, hM, hs⟩ := hM
  have hew := zE8 (fun x hx _ => by simp only [spoilsL, List.mem_cons, List.not_mem_nil, or_false] at hx; rcases hx with rfl | rfl <;> simp [noneA]) hee
  have hok := check_ok hew.1
  have hlo := hok.ll
  have hle2 := hok.le
  have hlh2 := hok.lh
  refine zAd (gy _ _ (zAg (fun jL hD => (zAg (fun jM hG => (zAc (zBe rfl rfl (w_p (zCv rfl rfl rfl rfl) rfl (zAe (zAd (hG _ _ (zB7 rfl rfl ?_))))))))))))
  refine zAx (zAd (hD _ _ (zAg (fun jN hH => ?_))))
  have hab := zFi (any_2 hew.2.1).1
  obtain ⟨x, rfl⟩ : ∃ x : Nat, a = (x : Int) := ⟨a.toNat, by have := hab a (by simp); omega⟩
  obtain ⟨n, rfl⟩ : ∃ n : Nat, b = (n : Int) := ⟨b.toNat, by have := hab b (by simp); omega⟩
  have hxl : x < c.lots.length := by have := hab (x : Int) (by simp); omega
  have hnl : n < c.lots.length := by have := hab (n : Int) (by simp); omega
  have hlk := hok.lot _ (List.getElem_mem hnl)
  have hhe : c.lots[n].hold = ((holdOf c n : Nat) : Int) := by unfold holdOf; rw [zD1 hnl]; exact (Int.toNat_of_nonneg hlk.hold.1).symm
  have hhl : holdOf c n < c.holds.length := by have := hlk.hold; omega
  obtain ⟨bx, ox, hbx, hx⟩ := zDy hm.l hnl
  refine w_drawD (C0 := fun w => St w0 w _) (C := fun w => ∃ M, Memo c mm M ∧ St w0 w ((cb, blk 132 [.slice p.ae c.heat.length p.ce, .int .i64 c.gas, .slice p.ah c.holds.length p.ch, .slice p.al c.lots.length p.cl, .slice p.an c.seen.length p.cn, .int .i64 ((0 : Nat) : Int), .map (some mm)]) :: (bc, blk 69 [.pointer (some ⟨cb, 0, none⟩)]) :: (b9, blk 3 [.int .i64 (n : Int)]) :: (b6, blk 3 [.int .i64 (x : Int)]) :: (b3, blk 42 (c.cells p)) :: (M ++ F))) [] [(0,1),(1,0),(2,1),(3,1),(4,0),(5,0),(6,1),(7,0),(8,0),(9,2),(10,0),(11,0)] zB0 (zB5 (by kernel_rfl)) hs (fun _ h => ⟨_, hM, h⟩) (fun _ h => h.drew) (fun jO g9 => ?_)
  refine zCn rfl zAb rfl ⟨_, hM, g9⟩ (fun _ ⟨M, hM, hq⟩ => (zAk isAgg69 hq rfl rfl (zAl (i := 1) (vs := [_]) rfl rfl))) ?_
  refine d_w rfl (fun _ => zAf (o := 3) (i := 3) underlying42 rfl sizeOf39 rfl rfl rfl) rfl ?_
  refine zCn rfl zAb rfl ⟨_, hM, g9⟩ (fun _ ⟨M, hM, hq⟩ => (zFd hbx (zAk isAgg39 hq rfl rfl (zAl (i := 4) (vs := [_]) rfl rfl)))) ?_
  refine zCn rfl zAb rfl ⟨_, hM, g9⟩ (fun _ ⟨M, hM, hq⟩ => (zAk isAgg3 hq rfl rfl (zAl (i := 2) (vs := [_]) rfl rfl))) ?_
  refine d_w rfl (fun _ => zBk underlying39 sizeOf38 rfl rfl rfl rfl (i := n) rfl hnl) rfl ?_
  refine d_w rfl (fun _ => zAf (o := 0) (i := 0) underlying38 rfl sizeOf3 rfl rfl rfl) rfl ?_
  refine zCn rfl zAb rfl ⟨_, hM, g9⟩ (fun _ ⟨M, hM, hq⟩ => (zAk isAgg3 hq.tail.tail.tail.tail.tail.drop rfl rfl (show Ats _ _ _ _ [_] from Ats.part hx 0 1))) ?_
  refine d_w rfl (fun _ => zCa (fv := []) (cv := [_,_,_]) rfl rfl rfl rfl) rfl ?_
  refine d_w rfl (fun _ => zBx (ps := [(0, _)]) (pv := [(0, .func _ _ _)]) rfl rfl (fun w => Try_UK_fb3 _ _ _ w)) rfl ?_
  have gw := ((((((g9.perm (zAa [_,_,_,_] [_] _)).perm (zAa [_,_,_,_] [_] _)).perm (zAa [_,_,_,_] [_] _)).perm (zAa [_,_,_,_] [_] _)).perm (zAa [_,_,_,_] [_] _)).perm (zAa [_,_,_,_,_] M _))
  replace gw := (show St _ _ (M ++ (_ :: _ :: _ :: _ :: _ :: F)) from gw)
  refine zBl rfl ?_
  refine zAr zAb call34 rfl rfl rfl rfl ((by have h := c34 (X := []) (B := []) (M := M) (F := (cb, blk 132 [.slice p.ae c.heat.length p.ce, .int .i64 c.gas, .slice p.ah c.holds.length p.ch, .slice p.al c.lots.length p.cl, .slice p.an c.seen.length p.cn, .int .i64 ((0 : Nat) : Int), .map (some mm)]) :: _ :: _ :: _ :: _ :: F) c p cb mm ⟨hm.cons.cons.cons.cons.cons, zAl (i := 0) rfl rfl, hok.t, by omega⟩ hok (holdOf c n) hhl 58 #[] #[.pointer (some ⟨b6,0, none⟩), .pointer (some ⟨bc, 0, none⟩), .pointer (some ⟨b9,0, none⟩)] (spoilsQ c x n) (fun i B => B = []) (spoils_qis c p cb mm ⟨hm.cons.cons.cons.cons.cons, zAl (i := 0) rfl rfl, hok.t, by omega⟩ hok (holdOf c n) hhl x n (by omega) (by omega) _ _ _ (zAl (i := 3) (vs := [_]) rfl rfl) (zAl (i := 1) (vs := [_]) rfl rfl) (zAl (i := 2) (vs := [_]) rfl rfl)) rfl hM gw; rw [← hhe] at h; exact h)) ?_
  rintro _ jP ⟨rfl, B1, M133, hJ1, hN, gx⟩
  subst hJ1
  replace gx := (show St _ _ (M133 ++ (_ :: _ :: _ :: _ :: _ :: F)) from gx)
  have gc := (((((gx.perm ((List.Perm.append_left M133 (zAa [_,_,_,_] [_] _)).trans (zAa M133 [_] _))).perm ((List.Perm.append_left [_] ((List.Perm.append_left M133 (zAa [_,_,_] [_] _)).trans (zAa M133 [_] _))).trans (zAa [_] [_] _))).perm ((List.Perm.append_left [_,_] ((List.Perm.append_left M133 (zAa [_,_] [_] _)).trans (zAa M133 [_] _))).trans (zAa [_,_] [_] _))).perm ((List.Perm.append_left [_,_,_] ((List.Perm.append_left M133 (zAa [_] [_] _)).trans (zAa M133 [_] _))).trans (zAa [_,_,_] [_] _))).perm ((List.Perm.append_left [_,_,_,_] (zAa M133 [_] _)).trans (zAa [_,_,_,_] [_] _)))
  replace gc := (show St _ _ (_ :: _ :: _ :: _ :: _ :: M133 ++ (F)) from gc)
  refine zAe (qn ⟨⟨_, hN, gc⟩, ?_⟩)
  refine d_w rfl (fun _ => zA2 rfl rfl) rfl ?_
  refine d_w rfl (fun _ => zAo (v := _) rfl rfl) rfl ?_
  refine zBh ?_
  refine zAd (hH _ _ (zA7 (zBa (l := [.tmp 6, .tmp 7]) (vs := [_,_]) rfl ⟨⟨rfl, (rfl : _ = Value.int _ _)⟩, ⟨rfl, (rfl : _ = Value.int _ _)⟩, trivial⟩ ?_)))
  exact ⟨by rw [spoilsP_y hee]; rfl, gc.tail.tail.tail.tail.tail.drop⟩

end Go.Proofs.Ut
/- Rows of cells, one of which is set anew. No conditions. -/
namespace Go.Rt
theorem zGn : ∀ (vs old pre post : List Value), old.length = vs.length → setMany (pre ++ (old ++ post)) pre.length vs = pre ++ (vs ++ post)
  | [], [], pre, post, _ => by simp [setMany]
  | v :: vs, o :: old, pre, post, h => by
    have ih := zGn vs old (pre ++ [v]) post (by simpa using h)
    simp only [setMany]
    rw [List.set_append_right _ _ (Nat.le_refl _), Nat.sub_self, List.cons_append, List.set_cons_zero]
    simpa using ih
  | [], _ :: _,_,_, h => by simp at h
  | _ :: _, [], _,_, h => by simp at h
theorem flat_len_sz {rows : List (List Value)} {sz : Nat} (hr : ∀ row ∈ rows, row.length = sz) : rows.flatten.length = rows.length * sz := by
  induction rows with
  | nil => simp
  | cons r l ih => rw [List.flatten_cons, List.length_append, hr r (.head _), ih fun x hx => hr x (.tail _ hx), List.length_cons, Nat.succ_mul]; omega
end Go.Rt
/- The walking engine, part 23: slices of structs of numbers that are made; copies of rows. No conditions. -/
namespace Go.Rt
open Go.RowKit
variable {r : Option Nat} {P : Program} {ops : Array Oper} {Q : Exit → Act → World → Prop} {rest : List Oper} {n : Nat} {ρ : Nat → Value} {ds : List Deferred} {w w0 : World} {L : List (Nat × Obj)}
  {d : Option Tmp} {ty : TypeId} {p : String} {e : Array Edge} {g : Option (Nat × Bool)}
theorem w_makeZ {d : Nat} {t el : TypeId} {x y : Operand} {k sz bytes : Nat} {i : TypeInfo} {z : Value} (hw : Want ops (A n ρ ds) ⟨some d, .makeSlice t x y, ty, p, e, g⟩) (ht : P.underlying t = some (.slice el)) (hi : P.info? el = some i) (hz : i.zero = some z) (hzc : z.cells = (iv (List.replicate sz 0)).toArray) (hs0 : 0 < sz) (hsize : i.size = sz)
    (hk0 : k * sz ≤ 1000000) (hk1 : k ≤ 1000000) (hby : i.bytes = bytes) (hb : bytes ≤ 1000) (ho : okO n x = true) (ho1 : okO n y = true) (hx : ev ρ x = .int .i64 (k : Int)) (hy : ev ρ y = .int .i64 (k : Int)) (hst : St w0 w L)
    (hk : ∀ b w', St w0 w' ((b, blk el (iv (List.replicate (k * sz) 0))) :: L) → WL r P ops Q rest (A n (upd ρ d (.slice (some ⟨b, 0, none⟩) k k)) ds) w') :
    WL r P ops Q (⟨some d, .makeSlice t x y, ty, p, e, g⟩ :: rest) (A n ρ ds) w := by
  have hbk : (bytes : Int) * (k : Int) ≤ 1000 * 1000000 := by
    have h : bytes * k ≤ 1000 * 1000000 := Nat.mul_le_mul hb hk1
    have h2 : ((bytes * k : Nat) : Int) ≤ ((1000 * 1000000 : Nat) : Int) := by omega
    simpa using h2
  refine zH7 (v := .slice (some ⟨w.heap.size, 0, none⟩) k k) (w' := w.alloc (blk el (iv (List.replicate (k * sz) 0)))) hw ?_ rfl (hk _ _ (hst.alloc _))
  have : (Instr.makeSlice t (.int .i64 (k : Int)) (.int .i64 (k : Int))).run P w = .ok (.slice (some ⟨w.heap.size, 0, none⟩) k k) (w.alloc (blk el (iv (List.replicate (k * sz) 0)))) := by
    have h := run_makeSlice (P := P) w t el i z ht hi hz .i64 .i64 (k : Int) (k : Int) (by omega) (by omega) (by rw [hsize, Int.toNat_natCast]; omega) (by rw [hby]; omega) (by omega)
    rw [h]
    have hm : madeCells z.cells (k * sz) = (iv (List.replicate (k * sz) 0)).toArray := by
      rw [hzc]
      apply Array.ext'
      apply List.ext_getElem?
      intro j
      by_cases hj : j < k * sz
      · have hmod : j % sz < sz := Nat.mod_lt _ hs0
        simp [madeCells, hj, hmod, List.getElem?_replicate]
      · simp [madeCells, hj, List.getElem?_replicate]
    simp only [Int.toNat_natCast, hsize, hm]
    rfl
  simp only [execOp, zB2 ho, zB2 ho1, hx, hy, Sem.run_bind, this]
  rfl
theorem rows_get {rows : List (List Value)} {sz : Nat} (hr : ∀ row ∈ rows, row.length = sz) : ∀ {j : Nat} {v : Value}, rows.flatten[j]? = some v → ∃ i k row, rows[i]? = some row ∧ row[k]? = some v ∧ j = i * sz + k := by
  induction rows with
  | nil => intro j v h; simp at h
  | cons r l ih =>
    intro j v h
    have hl := hr r (.head _)
    rw [List.flatten_cons] at h
    by_cases hj : j < r.length
    · rw [List.getElem?_append_left hj] at h
      exact ⟨0, j, r, rfl, h, by omega⟩
    · rw [List.getElem?_append_right (by omega)] at h
      obtain ⟨i, k, row, h1, h2, h3⟩ := ih (fun x hx => hr x (.tail _ hx)) h
      exact ⟨i + 1, k, row, by simpa using h1, h2, by rw [Nat.succ_mul]; omega⟩
theorem w_copyR {d : Nat} {t el : TypeId} {i sz : Nat} {x y : Operand} {b l c m c' : Nat} {tb : TypeId} {cs : List Value} {ax : Option Addr} {rows : List (List Value)}
    (hw : Want ops (A n ρ ds) ⟨some d, .call ⟨.builtin .copy, #[x, y], #[t, t]⟩, ty, p, e, g⟩)
    (hU : P.underlying t = some (.slice el)) (hsz : ∀ w, (sizeOf el).run P w = .ok sz w) (ho : okO n x = true) (ho1 : okO n y = true) (hx : ev ρ x = .slice (some ⟨b, 0, none⟩) l c) (hy : ev ρ y = .slice ax m c')
    (hst : St w0 w L) (hi : L[i]? = some (b, blk tb cs)) (hsl : Sl w0 L ax sz rows) (hr : ∀ row ∈ rows, row.length = sz) (hm : rows.length = m) (hle : m ≤ l) (h1 : ∀ row ∈ rows, ∀ u ∈ row, u.oneCell' = true) (hcs : m * sz ≤ cs.length)
    (hk : ∀ w', St w0 w' (L.set i (b, blk tb (rows.flatten ++ cs.drop (m * sz)))) → WL r P ops Q rest (A n (upd ρ d (.int .i64 (m : Nat))) ds) w') :
    WL r P ops Q (⟨some d, .call ⟨.builtin .copy, #[x, y], #[t, t]⟩, ty, p, e, g⟩ :: rest) (A n ρ ds) w := by
  have hfl : rows.flatten.length = m * sz := by rw [flat_len_sz hr, hm]
  have hmin : Nat.min m l = m := Nat.min_eq_left hle
  obtain ⟨w', hrun, hst'⟩ := zDs (P := P) (b := b) (off := 0) (t := tb) (i := i) rows.flatten 0 cs w L hst hi (by omega) (fun v hv => by obtain ⟨row, h2, h3⟩ := List.mem_flatten.1 hv; exact h1 row h2 v h3)
  have hset : setMany cs 0 rows.flatten = rows.flatten ++ cs.drop (m * sz) := by
    have := zGn rows.flatten (cs.take (m * sz)) [] (cs.drop (m * sz)) (by rw [List.length_take, hfl]; omega)
    simpa [List.take_append_drop] using this
  refine zH7 (v := .int .i64 (m : Nat)) (w' := w') hw ?_ rfl (hk w' (by rw [← hset]; simpa using hst'))
  have e1 : execOp (A n ρ ds).eval ⟨some d, .call ⟨.builtin .copy, #[x, y], #[t, t]⟩, ty, p, e, g⟩ = (do pure (.value (← Builtin.copy_ #[t, t] ty #[.slice (some ⟨b, 0, none⟩) l c, .slice ax m c']))) := by
    simp only [execOp, resolve]
    have : (#[x, y].map (A n ρ ds).eval) = #[.slice (some ⟨b, 0, none⟩) l c, .slice ax m c'] := by simp [zB2 ho, zB2 ho1, hx, hy]
    rw [this]
    rfl
  have hfirst : (Builtin.firstCells sz m (.slice ax m c')).run P w = .ok rows.flatten.toArray w := by
    cases ax with
    | none =>
      have : rows = [] := by
        rcases hsl with h | ⟨_, _, h, _⟩
        · exact h
        · cases h
      subst this
      simp [Builtin.firstCells]
    | some ad =>
      unfold Builtin.firstCells
      rcases hsl with h | ⟨b', off', h, hat⟩
      · subst h
        simp only [List.length_nil] at hm
        subst hm
        simp [loadCells, loadCellsFrom]
      · cases h
        have := run_loadCells_list (P := P) (w := w) ⟨b', off', none⟩ rows.flatten (fun j v hj => by
          obtain ⟨i, k, row, h2, h3, rfl⟩ := rows_get hr hj
          rw [Addr.add_lit]
          have := (hat i row h2).2 k v h3 w hst
          rwa [Nat.add_assoc] at this)
        rw [hfl] at this
        exact this
  rw [e1, Sem.run_bind]
  have : (Builtin.copy_ #[t, t] ty #[.slice (some ⟨b, 0, none⟩) l c, .slice ax m c']).run P w = .ok (.int .i64 (m : Nat)) w' := by
    unfold Builtin.copy_
    simp only [List.getElem?_toArray, List.getElem?_cons_zero, List.getElem?_cons_succ]
    rw [Sem.run_bind, run_underlying hU]
    simp only [Result.andThen]
    rw [Sem.run_bind]
    show ((pure m : Sem Nat).run P w).andThen _ = _
    simp only [Sem.run_pure, Result.andThen]
    rw [Sem.run_bind, hsz]
    simp only [Result.andThen]
    rw [hmin, Sem.run_bind, hfirst]
    simp only [Result.andThen]
    rw [Sem.run_bind]
    rw [hrun]
    rfl
  rw [this]
  rfl
end Go.Rt
