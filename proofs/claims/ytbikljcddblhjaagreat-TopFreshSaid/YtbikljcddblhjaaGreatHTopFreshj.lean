/- Own texts of this claim, joined. No conditions. -/
import Derived.Test.YtbikljcddblhjaaGreatHTopFresha
import Derived.Test.YtbikljcddblhjaaGreatHTopFreshb
import Derived.Test.YtbikljcddblhjaaGreatHTopFreshc
import Derived.Test.YtbikljcddblhjaaGreatHTopFreshd
import Derived.Test.YtbikljcddblhjaaGreatHTopFreshe
import Derived.Test.YtbikljcddblhjaaGreatHTopFreshf
import Derived.Test.YtbikljcddblhjaaGreatHTopFreshg
import Derived.Test.YtbikljcddblhjaaGreatHTopFreshh
import Derived.Test.YtbikljcddblhjaaGreatHTopFreshi
set_option linter.unusedVariables false
set_option linter.unusedSimpArgs false
set_option maxRecDepth 20000
namespace Go.Proofs.Cb
open Go.Proofs.Tryz
open Go.Rt Go.Rt.Ca
attribute [local irreducible] WL WC Con Yd At Ats Sl Agree DW
theorem Try_CP_fb8 (x0 : Int) (w : World) : (Instr.buildSlice 35 1 [(0, .int .i64 x0)].toArray).run Tryz.prog w = .ok (.slice (some ⟨w.heap.size, 0, none⟩) 1 1) (w.alloc (Go.Rt.blk 3 [.int .i64 x0])) := by kernel_rfl
theorem held_e1 {p : Port} {z : Int} (h : ¬ (check p).2.2 = 0) : heldD p z = 0 ∧ heldE p z = (check p).2.2 := by
  unfold heldD heldE
  rw [if_neg (fun hh => h hh.1), if_neg h]; exact ⟨rfl, rfl⟩
theorem held_e2 {p : Port} {z : Int} (h : (check p).2.2 = 0) (h2 : [z].any (out 0 (p.farms.length - 1)) = true) : heldD p z = 0 ∧ heldE p z = 4 := by
  simp only [List.any_cons, List.any_nil, Bool.or_false] at h2
  unfold heldD heldE
  rw [h2]; simp [h]
theorem held_fi {p : Port} {z : Int} (h2 : [z].any (out 0 (p.farms.length - 1)) = false) : ∃ f : Nat, z = f ∧ f < p.farms.length ∧ out 0 (p.farms.length - 1) z = false := by
  simp only [List.any_cons, List.any_nil, Bool.or_false] at h2
  have := (out_iff _ _ _).1 h2
  exact ⟨z.toNat, by omega, by omega, h2⟩
theorem zE7 {p : Port} {f : Nat} (h : (check p).2.2 = 0) (h2 : out 0 (p.farms.length - 1) (f : Int) = false) (h3 : ((doP p).any fun l => decide (l.getD f 0 = -1)) = true) (hne : 0 < (doC p).length) : heldD p f = -1 ∧ heldE p f = 0 := by
  unfold heldD heldE
  rw [h2, Int.toNat_natCast, h3]
  have : doC p ≠ [] := fun e => by rw [e] at hne; simp at hne
  simp [h, this]
theorem zFy {p : Port} {f : Nat} (h : (check p).2.2 = 0) (h2 : out 0 (p.farms.length - 1) (f : Int) = false) (h3 : ((doP p).any fun l => decide (l.getD f 0 = -1)) = false) (hne : 0 < (doC p).length) : heldD p f = held p f ∧ heldE p f = 0 := by
  unfold heldD heldE
  rw [h2, Int.toNat_natCast, h3]
  have : doC p ≠ [] := fun e => by rw [e] at hne; simp at hne
  simp [h, this]
theorem zFz {p : Port} {f : Nat} (h : (check p).2.2 = 0) (h2 : out 0 (p.farms.length - 1) (f : Int) = false) (h3 : (doC p).length = 0) : heldD p f = 0 ∧ heldE p f = 9 := by
  have h4 : doC p = [] := List.length_eq_zero_iff.1 h3
  unfold heldD heldE held doP
  rw [h2, h4]; simp [h]
theorem c20 {w0 w : World} {F : List (Nat × Obj)} (p : Port) (a : Option Addr) (c : Nat) (hl3 : p.farms.length ≤ 9223372036854775807) (hc : p.farms.length ≤ c) (ha : Sl w0 F a 6 (rows p.farms)) (hnm : ∀ f ∈ p.farms, f.name.size ≤ 9223372036854775807) (z : Int) (hs : St w0 w F) :
  Con Tryz.prog 20 [.agg (p.cells a c).toArray, .int .i64 z] w fun v w' => v = .tuple #[.int .i64 (heldD p z), .int .i64 (heldE p z)] ∧ St w0 w' F := by
  refine zD7 (n := 46) func20 rfl rfl (zNl rfl) ?_
  refine zAg (fun K2 gl => (zAc (zCj (v := .agg #[.int _ _, .int _ _, .int _ _, .slice _ _ _]) (cs := [_,_,_,_]) zAb rfl rfl rfl hs (fun b3 w4 gm => ?_))))
  refine zCj (v := .int _ _) (cs := [_]) zAb rfl rfl rfl gm (fun b6 w7 gn => ?_)
  refine zA0 (cs := [_]) zAb zeroValue3 rfl gn (fun b9 hD go => ?_)
  refine zA0 (cs := [_]) zAb zeroValue28 rfl go (fun gf hG gg => ?_)
  refine zAe (zAd (gl _ _ (zAg (fun hH gp => (zAc (w_p (zA9 (vs := [_,_,_,_]) isAgg26 sizeOf26 gg rfl rfl (zAl (i := 3) (vs := [_,_,_,_]) rfl rfl)) rfl (zAr zAb call45 rfl rfl rfl rfl (c45 p _ _ (by omega) (by omega) ha.cons.cons.cons.cons hnm gg) ?_)))))))
  rintro _ hN ⟨rfl, g7⟩
  refine w_p (zAi (v := .tuple _) rfl rfl) rfl (w_p (zAh (v := .int _ _) rfl rfl rfl) rfl (w_p (zAh (v := .int _ _) rfl rfl rfl) rfl (w_p (zAh (v := .int _ _) rfl rfl rfl) rfl (zBs rfl rfl (zBs rfl rfl (zBs rfl rfl ?_))))))
  refine zAe (zAd (gp _ _ (zAg (fun hO gq => (zA8 ?_)))))
  refine zAg (fun hP gr => (zAc (zBe rfl rfl (w_p (zCv rfl rfl rfl rfl) rfl (w_p (zAo (v := .bool _) rfl rfl) rfl (zAe (zAd (gr _ _ (zA1 rfl rfl (fun ga => ?_) (fun ga => ?_))))))))))
  ·
   try simp only [zS] at ga
   refine zAg (fun hX gt => (zAc (zBe rfl rfl (zAs (i := 1) (v := .int _ _) (vs := [_]) zAb sizeOf3 rfl rfl rfl rfl rfl (by simp [Value.oneCell']) g7 rfl (zNl rfl) (fun hY gu => ?_)))))
   refine zAs (i := 0) (v := .int _ _) (vs := [_]) zAb sizeOf28 rfl rfl rfl rfl rfl (by simp [Value.oneCell']) gu rfl (zNl rfl) (fun j0 g0 => ?_)
   refine zAe (zAd (gt _ _ (zA7 (zAy (zAm (q_retM0 (l := [.cell 4 3, .cell 5 28]) (vs := [_,_]) rfl ⟨⟨rfl, _, rfl, zCi isAgg3 g0 (zAl (i := 1) (vs := [_]) rfl rfl)⟩, ⟨rfl, _, rfl, zCi isAgg28 g0 (zAl (i := 0) (vs := [_]) rfl rfl)⟩, trivial⟩ ?_))))))
   first
     | (obtain ⟨e1, e2⟩ := held_e1 (p := p) (z := z) (by assumption); rw [e1, e2]; exact ⟨rfl, g0.tail.tail.tail.tail⟩)
     | (obtain ⟨e1, e2⟩ := held_e2 (p := p) (z := z) (by assumption) (by assumption); rw [e1, e2]; exact ⟨rfl, g0.tail.tail.tail.tail⟩)
     | (obtain ⟨e1, e2⟩ := zE7 (p := p) (f := f) (by assumption) hfo hnv hdc; rw [e1, e2]; exact ⟨rfl, g0.tail.tail.tail.tail⟩)
     | (obtain ⟨e1, e2⟩ := zFz (p := p) (f := f) (by assumption) hfo (by omega); rw [e1, e2]; exact ⟨rfl, g0.tail.tail.tail.tail⟩)
     | (rw [zEa (by simp [doP])] at hnv; obtain ⟨e1, e2⟩ := zFy (p := p) (f := f) (by assumption) hfo hnv (by omega); rw [e1, e2, ← zD9 (i := (doC p).length) (by simp [doP])]; exact ⟨rfl, g0.tail.tail.tail.tail⟩)
  try simp only [zS] at ga
  refine zAg (fun j1 gv => ?_)
  have hok := check_ok (by assumption)
  have hlen3 := hok.len
  refine zAc (w_p (zAf (o := 3) (i := 2) underlying26 rfl sizeOf24 rfl rfl rfl) rfl (w_p (zAk isAgg24 g7 rfl rfl (zAl (i := 3) (vs := [_]) rfl rfl)) rfl (w_p (zBo underlying24 rfl rfl) rfl (w_p (zHg rfl rfl rfl rfl (by omega) (by omega)) rfl ?_))))
  refine w_p (zAk isAgg3 g7 rfl rfl (zAl (i := 2) (vs := [_]) rfl rfl)) rfl (zA3 (ps := [(0, _)]) (pv := [(0, .int _ _)]) (cs := [_]) zAb rfl rfl (fun w => Try_CP_fb8 _ w) g7 (fun j2 j3 gw => ?_))
  refine zAr zAb call51 rfl rfl rfl rfl (c51 _ _ _ [_] _ (by simp) (zBd (i := 0) (rows := [[_]]) rfl (by simp) rfl) gw) ?_
  rintro _ j4 ⟨rfl, gh⟩
  refine w_p (zAo (v := .bool _) rfl rfl) rfl (zAe (zAd (gv _ _ (zA1 rfl rfl (fun gb => ?_) (fun gb => ?_)))))
  ·
   try simp only [zS] at gb
   refine zAg (fun j5 gx => (zAc (zAs (i := 2) (v := .int _ _) (vs := [_]) zAb sizeOf3 rfl rfl rfl rfl rfl (by simp [Value.oneCell']) gh rfl (zNl rfl) (fun j6 gy => ?_))))
   refine zAs (i := 1) (v := .int _ _) (vs := [_]) zAb sizeOf28 rfl rfl rfl rfl rfl (by simp [Value.oneCell']) gy rfl (zNl rfl) (fun j7 g3 => ?_)
   refine zAe (zAd (gx _ _ (zA7 (zAy (zAm (q_retM0 (l := [.cell 4 3, .cell 5 28]) (vs := [_,_]) rfl ⟨⟨rfl, _, rfl, zCi isAgg3 g3 (zAl (i := 2) (vs := [_]) rfl rfl)⟩, ⟨rfl, _, rfl, zCi isAgg28 g3 (zAl (i := 1) (vs := [_]) rfl rfl)⟩, trivial⟩ ?_))))))
   first
     | (obtain ⟨e1, e2⟩ := held_e1 (p := p) (z := z) (by assumption); rw [e1, e2]; exact ⟨rfl, g3.tail.tail.tail.tail.tail⟩)
     | (obtain ⟨e1, e2⟩ := held_e2 (p := p) (z := z) (by assumption) (by assumption); rw [e1, e2]; exact ⟨rfl, g3.tail.tail.tail.tail.tail⟩)
     | (obtain ⟨e1, e2⟩ := zE7 (p := p) (f := f) (by assumption) hfo hnv hdc; rw [e1, e2]; exact ⟨rfl, g3.tail.tail.tail.tail.tail⟩)
     | (obtain ⟨e1, e2⟩ := zFz (p := p) (f := f) (by assumption) hfo (by omega); rw [e1, e2]; exact ⟨rfl, g3.tail.tail.tail.tail.tail⟩)
     | (rw [zEa (by simp [doP])] at hnv; obtain ⟨e1, e2⟩ := zFy (p := p) (f := f) (by assumption) hfo hnv (by omega); rw [e1, e2, ← zD9 (i := (doC p).length) (by simp [doP])]; exact ⟨rfl, g3.tail.tail.tail.tail.tail⟩)
  try simp only [zS] at gb
  refine zAx (zAn (zAd (gq _ _ (zAg (fun j8 gz => ?_)))))
  have gA := gh.tail
  obtain ⟨f, rfl, hfl, hfo⟩ := held_fi (p := p) (by assumption)
  refine zAc (zA0 (cs := [_]) zAb zeroValue3 rfl gA (fun gi j9 gB => ?_))
  refine zA0 (cs := [_]) zAb zeroValue4 rfl gB (fun gj ja gC => ?_)
  refine zAs (i := 1) (v := .int _ _) (vs := [_]) zAb sizeOf3 rfl rfl rfl rfl rfl (by simp [Value.oneCell']) gC rfl (zNl rfl) (fun jb gD => ?_)
  refine zAs (i := 0) (v := .bool _) (vs := [_]) zAb sizeOf4 rfl rfl rfl rfl rfl (by simp [Value.oneCell']) gD rfl (zNl rfl) (fun jc gk => ?_)
  refine zAe (zAd (gz _ _ (zAg (fun jd gE => (zAg (fun je gF => (zAc (w_p (zA9 (vs := [_,_,_,_]) isAgg26 sizeOf26 gk rfl rfl (zAl (i := 5) (vs := [_,_,_,_]) rfl rfl)) rfl ?_))))))))
  refine zAr zAb call46 rfl rfl rfl rfl (c46 p _ _ gk) ?_
  rintro _ jf ⟨m, pb, rfl, gG⟩
  refine zAr zAb call48 rfl rfl rfl rfl (c48 _ gG) ?_
  rintro _ jg ⟨bq, rfl, gH⟩
  refine zAe (zAd (gF _ _ (zA8 ?_)))
  refine w_range ([_,_,_,_]) (fun i Bx => Bx = [(gj, blk 4 [.bool (decide (0 < i))]), (gi, blk 3 [.int .i64 (heldUpto p f i)]), (gf, blk 28 [.int .i64 0]), (b9, blk 3 [.int .i64 0])] ∧ anyNever p f i = false) (fun cd Bx => cd = .ret ∧ (∃ x y, Bx = [(gj, blk 4 [.bool x]), (gi, blk 3 [.int .i64 y]), (gf, blk 28 [.int .i64 0]), (b9, blk 3 [.int .i64 (-1)])]) ∧ ((doP p).any fun l => decide (l.getD f 0 = -1)) = true ∧ 0 < (doC p).length) rfl rfl rfl call76 (does_iter (F := ((bq, blk 83 [.pointer (some ⟨pb, 0, none⟩)]) :: (m, .map #[] 0) :: (pb, blk 128 [.int .i64 p.hold, .int .i64 p.clo, .int .i64 p.chi, .slice a p.farms.length c, .map (some m)]) :: (b6, blk 3 [.int .i64 (f : Int)]) :: (b3, blk 26 (p.cells a c)) :: F)) p a c m pb (zAl (i := 2) (vs := [_,_,_,_,_]) rfl rfl) ha.cons.cons.cons.cons.cons hok bq (zAl (i := 0) (vs := [_]) rfl rfl)) gH (zAa [_,_,_] [_,_,_,_] _) ⟨rfl, rfl⟩ ?_ ?_ ?_
  ·
   intro lp i hi Bx Xr Xr2 jh hJ hs K gI
   obtain ⟨rfl, hnv⟩ := hJ
   have hi2 : i < (doP p).length := by simpa [doP] using hi
   have hi3 : i < (doC p).length := by simpa using hi
   rw [List.getElem_map, show ((doC p).map pad)[i]'(by simpa [doP] using hi2) = (doP p)[i] from rfl]
   have hlen := doP_len _ (List.getElem_mem hi2)
   have hl1 := doP_in _ (List.getElem_mem hi2)
   obtain ⟨l, hl⟩ : ∃ l, l = (doP p)[i] := ⟨_, rfl⟩
   rw [← hl] at hlen hl1 ⊢
   replace hs := (show St _ _ (_ :: _ :: _ :: _ :: (Xr ++ (_ :: _ :: _ :: _ :: _ :: F))) from hs)
   have hb3 : Ats w0 ((bq, blk 83 [.pointer (some ⟨pb, 0, none⟩)]) :: (m, .map #[] 0) :: (pb, blk 128 [.int .i64 p.hold, .int .i64 p.clo, .int .i64 p.chi, .slice a p.farms.length c, .map (some m)]) :: (b6, blk 3 [.int .i64 (f : Int)]) :: (b3, blk 26 (p.cells a c)) :: F) b6 0 [.int .i64 (f : Int)] := zAl (i := 3) (vs := [_]) rfl rfl
   refine zAc (zA0 (cs := iv [0,0,0]) zAb zeroValue85 rfl hs (fun ji jj gJ => ?_))
   refine zB6 (i := 0) (l := _) zAb sizeOf85 (by first | omega | rfl | (simp only [zL] <;> omega)) rfl rfl rfl rfl rfl gJ rfl (by first | omega | rfl | (simp only [zL] <;> omega)) (fun jk gK => ?_)
   refine zAe (zAd (gI _ _ (_ :: _ :: _ :: _ :: _ :: []) gK (fun jl gc => ?_)))
   replace gc := (show St _ _ (_ :: _ :: _ :: _ :: _ :: Xr2 ++ (_ :: _ :: _ :: _ :: _ :: F)) from gc)
   refine zA8 ?_
   refine zAg (fun jm gL => (zAg (fun jn gM => (zAc (zAs (i := 1) (v := .bool _) (vs := [_]) zAb sizeOf4 rfl rfl rfl rfl rfl (by simp [Value.oneCell']) gc rfl (zNl rfl) (fun jo g8 => ?_))))))
   refine zAe (zAd (gM _ _ (zAg (fun jp gN => (zAc (w_p (zAk isAgg3 g8.tail.tail.tail.tail.tail.drop rfl rfl hb3) rfl (w_p (zCb underlying85 sizeOf3 rfl rfl rfl rfl (i := f) (by first | rfl | omega) (by omega)) rfl ?_)))))))
   refine w_p (zAk isAgg3 g8 rfl rfl (zCy (i := 0) (j := f) rfl (by first | omega | rfl | (simp only [zL] <;> omega)))) rfl ?_
   refine w_p (zB3 rfl rfl rfl rfl) rfl (zAe (zAd (gN _ _ (zA1 rfl rfl (fun gd => ?_) (fun gd => ?_)))))
   ·
    try simp only [zS] at gd
    refine zAg (fun jq gO => (zAc (zAs (i := 4) (v := .int _ _) (vs := [_]) zAb sizeOf3 rfl rfl rfl rfl rfl (by simp [Value.oneCell']) g8 rfl (zNl rfl) (fun jr gP => ?_))))
    refine zAs (i := 3) (v := .int _ _) (vs := [_]) zAb sizeOf28 rfl rfl rfl rfl rfl (by simp [Value.oneCell']) gP rfl (zNl rfl) (fun js gQ => ?_)
    refine zAe (zAd (gO _ _ (zA7 (zAm (zAy (rd_ret (_ :: _ :: _ :: _ :: []) gQ.tail ?_))))))
    exact ⟨rfl, ⟨_, _, rfl⟩, anyNever_true (i := i + 1) (by rw [zHf hi2, hnv, ← hl, Bool.false_or]; exact decide_eq_true (by assumption)), by omega⟩
   try simp only [zS] at gd
   refine zAx (zAd (gL _ _ (zCe [5] [(0,1),(1,1),(2,0),(3,1),(4,0),(5,3)] zB0 (by kernel_rfl) g8 (fun jt g9 => ?_))))
   refine zBb rfl zAb rfl g9 (fun _ hq => (zAk isAgg3 hq rfl rfl (zAl (i := 2) (vs := [_]) rfl rfl))) ?_
   refine zBb rfl zAb rfl g9 (fun _ hq => (zAk isAgg3 hq.tail.tail.tail.tail.tail.drop rfl rfl hb3)) ?_
   refine d_w rfl (fun _ => zCb underlying85 sizeOf3 rfl rfl rfl rfl (i := f) (by first | rfl | omega) (by omega)) rfl ?_
   refine zBb rfl zAb rfl g9 (fun _ hq => (zAk isAgg3 hq rfl rfl (zCy (i := 0) (j := f) rfl (by first | omega | rfl | (simp only [zL] <;> omega))))) ?_
   refine d_w rfl (fun _ => y_max2 rfl rfl rfl rfl) rfl ?_
   refine zBm rfl ?_
   refine zAs (i := 2) (v := .int _ _) (vs := [_]) zAb sizeOf3 rfl rfl rfl rfl rfl (by simp [Value.oneCell']) g9 rfl (zNl rfl) (fun ju gR => ?_)
   refine zAe (qn ?_)
   refine zBh ?_
   refine zAn (zDk (_ :: _ :: _ :: _ :: []) gR.tail ?_)
   exact ⟨by rw [heldUpto_succ hi2, ← hl]; rfl, by rw [zHf hi2, hnv, ← hl, Bool.false_or]; exact decide_eq_false (by assumption)⟩
  ·
   intro bd Bx jv hJ hs
   obtain ⟨rfl, hnv⟩ := hJ
   rw [List.length_map, List.length_map] at *
   replace hs := (show St _ _ (_ :: _ :: _ :: _ :: _ :: _ :: _ :: _ :: _ :: _ :: F) from hs)
   refine zAn (zAd (gE _ _ (zAg (fun jw gS => (zAg (fun jx gT => (zAc (w_p (zAk isAgg4 hs rfl rfl (zAl (i := 1) (vs := [_]) rfl rfl)) rfl ?_))))))))
   refine w_p (zDq rfl rfl) rfl (zAe (zAd (gT _ _ (zA1 rfl rfl (fun ge => ?_) (fun ge => ?_)))))
   ·
    try simp only [zS] at ge
    refine zAg (fun jy gU => (zAc (zAs (i := 4) (v := .int _ _) (vs := [_]) zAb sizeOf3 rfl rfl rfl rfl rfl (by simp [Value.oneCell']) hs rfl (zNl rfl) (fun jz gV => ?_))))
    refine zAs (i := 3) (v := .int _ _) (vs := [_]) zAb sizeOf28 rfl rfl rfl rfl rfl (by simp [Value.oneCell']) gV rfl (zNl rfl) (fun jA gW => ?_)
    refine zAe (zAd (gU _ _ (zA7 (zAm (zFo (i := 0) (l := [.cell 4 3, .cell 5 28]) (vs := [_,_]) gW rfl rfl (fun jB g4 => ⟨⟨⟨rfl, _, rfl, zCi isAgg3 g4 (zAl (i := 4) (vs := [_]) rfl rfl)⟩, ⟨rfl, _, rfl, zCi isAgg28 g4 (zAl (i := 3) (vs := [_]) rfl rfl)⟩, trivial⟩, ?_⟩))))))
    first
      | (obtain ⟨e1, e2⟩ := held_e1 (p := p) (z := z) (by assumption); rw [e1, e2]; exact ⟨rfl, g4.tail.tail.tail.tail.tail.tail.tail.tail.tail.tail⟩)
      | (obtain ⟨e1, e2⟩ := held_e2 (p := p) (z := z) (by assumption) (by assumption); rw [e1, e2]; exact ⟨rfl, g4.tail.tail.tail.tail.tail.tail.tail.tail.tail.tail⟩)
      | (obtain ⟨e1, e2⟩ := zE7 (p := p) (f := f) (by assumption) hfo hnv hdc; rw [e1, e2]; exact ⟨rfl, g4.tail.tail.tail.tail.tail.tail.tail.tail.tail.tail⟩)
      | (obtain ⟨e1, e2⟩ := zFz (p := p) (f := f) (by assumption) hfo (by omega); rw [e1, e2]; exact ⟨rfl, g4.tail.tail.tail.tail.tail.tail.tail.tail.tail.tail⟩)
      | (rw [zEa (by simp [doP])] at hnv; obtain ⟨e1, e2⟩ := zFy (p := p) (f := f) (by assumption) hfo hnv (by omega); rw [e1, e2, ← zD9 (i := (doC p).length) (by simp [doP])]; exact ⟨rfl, g4.tail.tail.tail.tail.tail.tail.tail.tail.tail.tail⟩)
   try simp only [zS] at ge
   refine zAx (zAd (gS _ _ (zAg (fun jC gX => (zAc (w_p (zAk isAgg3 hs rfl rfl (zAl (i := 2) (vs := [_]) rfl rfl)) rfl (zAs (i := 4) (v := .int _ _) (vs := [_]) zAb sizeOf3 rfl rfl rfl rfl rfl (by simp [Value.oneCell']) hs rfl (zNl rfl) (fun jD gY => ?_))))))))
   refine zAs (i := 3) (v := .int _ _) (vs := [_]) zAb sizeOf28 rfl rfl rfl rfl rfl (by simp [Value.oneCell']) gY rfl (zNl rfl) (fun jE gZ => ?_)
   refine zAe (zAd (gX _ _ (zA7 (zFo (i := 0) (l := [.cell 4 3, .cell 5 28]) (vs := [_,_]) gZ rfl rfl (fun jF g5 => ⟨⟨⟨rfl, _, rfl, zCi isAgg3 g5 (zAl (i := 4) (vs := [_]) rfl rfl)⟩, ⟨rfl, _, rfl, zCi isAgg28 g5 (zAl (i := 3) (vs := [_]) rfl rfl)⟩, trivial⟩, ?_⟩)))))
   first
     | (obtain ⟨e1, e2⟩ := held_e1 (p := p) (z := z) (by assumption); rw [e1, e2]; exact ⟨rfl, g5.tail.tail.tail.tail.tail.tail.tail.tail.tail.tail⟩)
     | (obtain ⟨e1, e2⟩ := held_e2 (p := p) (z := z) (by assumption) (by assumption); rw [e1, e2]; exact ⟨rfl, g5.tail.tail.tail.tail.tail.tail.tail.tail.tail.tail⟩)
     | (obtain ⟨e1, e2⟩ := zE7 (p := p) (f := f) (by assumption) hfo hnv hdc; rw [e1, e2]; exact ⟨rfl, g5.tail.tail.tail.tail.tail.tail.tail.tail.tail.tail⟩)
     | (obtain ⟨e1, e2⟩ := zFz (p := p) (f := f) (by assumption) hfo (by omega); rw [e1, e2]; exact ⟨rfl, g5.tail.tail.tail.tail.tail.tail.tail.tail.tail.tail⟩)
     | (rw [zEa (by simp [doP])] at hnv; obtain ⟨e1, e2⟩ := zFy (p := p) (f := f) (by assumption) hfo hnv (by omega); rw [e1, e2, ← zD9 (i := (doC p).length) (by simp [doP])]; exact ⟨rfl, g5.tail.tail.tail.tail.tail.tail.tail.tail.tail.tail⟩)
  intro bd c Bx jG hJ hs
  obtain ⟨rfl, ⟨x, y, rfl⟩, hnv, hdc⟩ := hJ
  replace hs := (show St _ _ (_ :: _ :: _ :: _ :: _ :: _ :: _ :: _ :: _ :: _ :: F) from hs)
  refine zA7 (zAy (zAm (zFo (i := 0) (l := [.cell 4 3, .cell 5 28]) (vs := [_,_]) hs rfl rfl (fun jH g6 => ⟨⟨⟨rfl, _, rfl, zCi isAgg3 g6 (zAl (i := 4) (vs := [_]) rfl rfl)⟩, ⟨rfl, _, rfl, zCi isAgg28 g6 (zAl (i := 3) (vs := [_]) rfl rfl)⟩, trivial⟩, ?_⟩))))
  first
    | (obtain ⟨e1, e2⟩ := held_e1 (p := p) (z := z) (by assumption); rw [e1, e2]; exact ⟨rfl, g6.tail.tail.tail.tail.tail.tail.tail.tail.tail.tail⟩)
    | (obtain ⟨e1, e2⟩ := held_e2 (p := p) (z := z) (by assumption) (by assumption); rw [e1, e2]; exact ⟨rfl, g6.tail.tail.tail.tail.tail.tail.tail.tail.tail.tail⟩)
    | (obtain ⟨e1, e2⟩ := zE7 (p := p) (f := f) (by assumption) hfo hnv hdc; rw [e1, e2]; exact ⟨rfl, g6.tail.tail.tail.tail.tail.tail.tail.tail.tail.tail⟩)
    | (obtain ⟨e1, e2⟩ := zFz (p := p) (f := f) (by assumption) hfo (by omega); rw [e1, e2]; exact ⟨rfl, g6.tail.tail.tail.tail.tail.tail.tail.tail.tail.tail⟩)
    | (rw [zEa (by simp [doP])] at hnv; obtain ⟨e1, e2⟩ := zFy (p := p) (f := f) (by assumption) hfo hnv (by omega); rw [e1, e2, ← zD9 (i := (doC p).length) (by simp [doP])]; exact ⟨rfl, g6.tail.tail.tail.tail.tail.tail.tail.tail.tail.tail⟩)

theorem told_e1 {p : Port} {z : Int} (h : ¬ (check p).2.2 = 0) : toldD p z = 0 ∧ toldE p z = (check p).2.2 := by
  unfold toldD toldE
  rw [if_neg (fun hh => h hh.1), if_neg h]; exact ⟨rfl, rfl⟩
theorem told_e2 {p : Port} {z : Int} (h : (check p).2.2 = 0) (h2 : [z].any (out 0 10) = true) : toldD p z = 0 ∧ toldE p z = 7 := by
  simp only [List.any_cons, List.any_nil, Bool.or_false] at h2
  unfold toldD toldE
  rw [h2]; simp [h]
theorem told_d {z : Int} (h2 : [z].any (out 0 10) = false) : ∃ d : Nat, z = d ∧ d ≤ 10 ∧ out 0 10 z = false := by
  simp only [List.any_cons, List.any_nil, Bool.or_false] at h2
  have := (out_iff _ _ _).1 h2
  exact ⟨z.toNat, by omega, by omega, h2⟩
theorem told_e3 {p : Port} {d : Nat} (h : (check p).2.2 = 0) (h2 : out 0 10 (d : Int) = false) (h3 : told p d < 0) : toldD p d = 0 ∧ toldE p d = 9 := by
  unfold toldD toldE
  rw [h2, Int.toNat_natCast]; simp [h, h3]; omega
theorem told_ok {p : Port} {d : Nat} (h : (check p).2.2 = 0) (h2 : out 0 10 (d : Int) = false) (h3 : 0 ≤ told p d) : toldD p d = told p d ∧ toldE p d = 0 := by
  unfold toldD toldE
  rw [h2, Int.toNat_natCast]; simp [h, h3]
theorem c22 {w0 w : World} {F : List (Nat × Obj)} (p : Port) (a : Option Addr) (c : Nat) (hl3 : p.farms.length ≤ 9223372036854775807) (hc : p.farms.length ≤ c) (ha : Sl w0 F a 6 (rows p.farms)) (hnm : ∀ f ∈ p.farms, f.name.size ≤ 9223372036854775807) (z : Int) (hs : St w0 w F) :
  Con Tryz.prog 22 [.agg (p.cells a c).toArray, .int .i64 z] w fun v w' => v = .tuple #[.int .i64 (toldD p z), .int .i64 (toldE p z)] ∧ St w0 w' F := by
  refine zD7 (n := 52) func22 rfl rfl (zNl rfl) ?_
  refine zAg (fun K2 gj => (zAc (zCj (v := .agg #[.int _ _, .int _ _, .int _ _, .slice _ _ _]) (cs := [_,_,_,_]) zAb rfl rfl rfl hs (fun b3 w4 gk => ?_))))
  refine zCj (v := .int _ _) (cs := [_]) zAb rfl rfl rfl gk (fun b6 w7 gh => ?_)
  refine zBj rfl rfl (zBj rfl rfl (zAe (zAd (gj _ _ (zAg (fun gN gl => (zAc (w_p (zA9 (vs := [_,_,_,_]) isAgg26 sizeOf26 gh rfl rfl (zAl (i := 1) (vs := [_,_,_,_]) rfl rfl)) rfl ?_))))))))
  refine zAr zAb call45 rfl rfl rfl rfl (c45 p _ _ (by omega) (by omega) ha.cons.cons hnm gh) ?_
  rintro _ gO ⟨rfl, g0⟩
  refine w_p (zAi (v := .tuple _) rfl rfl) rfl (w_p (zAh (v := .int _ _) rfl rfl rfl) rfl (w_p (zAh (v := .int _ _) rfl rfl rfl) rfl (w_p (zAh (v := .int _ _) rfl rfl rfl) rfl (zBs rfl rfl (zBs rfl rfl (zBs rfl rfl ?_))))))
  refine zAe (zAd (gl _ _ (zAg (fun gP gm => (zA8 ?_)))))
  refine zAg (fun gQ gn => (zAc (zBe rfl rfl (w_p (zCv rfl rfl rfl rfl) rfl (w_p (zAo (v := .bool _) rfl rfl) rfl (zAe (zAd (gn _ _ (zA1 rfl rfl (fun g9 => ?_) (fun g9 => ?_))))))))))
  ·
   try simp only [zS] at g9
   refine zAg (fun gR go => (zAc (zBe rfl rfl (zBj rfl rfl (zBs rfl rfl (zAe (zAd (go _ _ (zA7 (zAy (zAm (q_retM0 (l := [.tmp 4, .tmp 5]) (vs := [_,_]) rfl ⟨⟨rfl, (rfl : _ = Value.int _ _)⟩, ⟨rfl, (rfl : _ = Value.int _ _)⟩, trivial⟩ ?_))))))))))))
   first
     | (obtain ⟨e1, e2⟩ := told_e1 (p := p) (z := z) (by assumption); rw [e1, e2]; exact ⟨rfl, g0.tail.tail⟩)
     | (obtain ⟨e1, e2⟩ := told_e2 (p := p) (z := z) (by assumption) (by assumption); rw [e1, e2]; exact ⟨rfl, g0.tail.tail⟩)
     | (have hall := zDi (p := p) (d := d) (i := (((allC d p.farms.length).map pad).map ia).length) (by simp); obtain ⟨e1, e2⟩ := told_e3 (p := p) (d := d) (by assumption) hdo (by omega); rw [e1, e2]; exact ⟨rfl, g0.tail.tail⟩)
     | (have hall := zDi (p := p) (d := d) (i := (((allC d p.farms.length).map pad).map ia).length) (by simp); obtain ⟨e1, e2⟩ := told_ok (p := p) (d := d) (by assumption) hdo (by omega); rw [e1, e2, ← hall]; exact ⟨rfl, g0.tail.tail⟩)
  try simp only [zS] at g9
  refine zAg (fun gS gp => ?_)
  have hok := check_ok (by assumption)
  have hlen3 := hok.len
  refine zAc (w_p (zAk isAgg3 g0 rfl rfl (zAl (i := 0) (vs := [_]) rfl rfl)) rfl (zA3 (ps := [(0, _)]) (pv := [(0, .int _ _)]) (cs := [_]) zAb rfl rfl (fun w => Try_CP_fb8 _ w) g0 (fun gT gU gq => ?_)))
  refine zAr zAb call51 rfl rfl rfl rfl (c51 _ _ _ [_] _ (by simp) (zBd (i := 0) (rows := [[_]]) rfl (by simp) rfl) gq) ?_
  rintro _ gV ⟨rfl, g5⟩
  refine w_p (zAo (v := .bool _) rfl rfl) rfl (zAe (zAd (gp _ _ (zA1 rfl rfl (fun ga => ?_) (fun ga => ?_)))))
  ·
   try simp only [zS] at ga
   refine zAg (fun gW gr => (zAc (zBj rfl rfl (zBj rfl rfl (zAe (zAd (gr _ _ (zA7 (zAy (zAm (q_retM0 (l := [.tmp 4, .tmp 5]) (vs := [_,_]) rfl ⟨⟨rfl, (rfl : _ = Value.int _ _)⟩, ⟨rfl, (rfl : _ = Value.int _ _)⟩, trivial⟩ ?_)))))))))))
   first
     | (obtain ⟨e1, e2⟩ := told_e1 (p := p) (z := z) (by assumption); rw [e1, e2]; exact ⟨rfl, g5.tail.tail.tail⟩)
     | (obtain ⟨e1, e2⟩ := told_e2 (p := p) (z := z) (by assumption) (by assumption); rw [e1, e2]; exact ⟨rfl, g5.tail.tail.tail⟩)
     | (have hall := zDi (p := p) (d := d) (i := (((allC d p.farms.length).map pad).map ia).length) (by simp); obtain ⟨e1, e2⟩ := told_e3 (p := p) (d := d) (by assumption) hdo (by omega); rw [e1, e2]; exact ⟨rfl, g5.tail.tail.tail⟩)
     | (have hall := zDi (p := p) (d := d) (i := (((allC d p.farms.length).map pad).map ia).length) (by simp); obtain ⟨e1, e2⟩ := told_ok (p := p) (d := d) (by assumption) hdo (by omega); rw [e1, e2, ← hall]; exact ⟨rfl, g5.tail.tail.tail⟩)
  try simp only [zS] at ga
  refine zAx (zAn (zAd (gm _ _ (zAg (fun gX gt => ?_)))))
  have gi := g5.tail
  obtain ⟨d, rfl, hd10, hdo⟩ := told_d (by assumption)
  refine zAc (w_p (zA9 (vs := [_,_,_,_]) isAgg26 sizeOf26 gi rfl rfl (zAl (i := 1) (vs := [_,_,_,_]) rfl rfl)) rfl (zAr zAb call46 rfl rfl rfl rfl (c46 p _ _ gi) ?_))
  rintro _ gY ⟨m, pb, rfl, gu⟩
  refine zA0 (cs := [_]) zAb zeroValue83 rfl gu (fun g6 gZ gv => ?_)
  refine zAs (i := 0) (v := .pointer _) (vs := [_]) zAb sizeOf83 rfl rfl rfl rfl rfl (by simp [Value.oneCell']) gv rfl (zNl rfl) (fun hD gw => ?_)
  refine zAe (zAd (gt _ _ (zAg (fun hG gx => (zAc (zA0 (cs := [_]) zAb zeroValue3 rfl gw (fun gy hH gz => ?_)))))))
  refine zAs (i := 0) (v := .int _ _) (vs := [_]) zAb sizeOf3 rfl rfl rfl rfl rfl (by simp [Value.oneCell']) gz rfl (zNl rfl) (fun hN gb => ?_)
  refine zAe (zAd (gx _ _ (zAg (fun hO gA => (zAg (fun hP gB => (zAc (w_p (zAk isAgg83 gb rfl rfl (zAl (i := 1) (vs := [_]) rfl rfl)) rfl ?_))))))))
  refine w_p (zAk isAgg3 gb rfl rfl (zAl (i := 4) (vs := [_]) rfl rfl)) rfl (zAr zAb call54 rfl rfl rfl rfl (c54 _ _ gb) ?_)
  rintro _ hX ⟨bp, bb, rfl, gC⟩
  refine zAe (zAd (gB _ _ (zA8 ?_)))
  refine w_range ([_]) (fun i Bx => Bx = [(gy, blk 3 [.int .i64 (toldUpto p d i)])]) (fun _ _ => False) rfl rfl rfl call79 (all_iter (F := ((bb, blk 3 [.int .i64 (d : Int)]) :: (bp, blk 83 [.pointer (some ⟨pb, 0, none⟩)]) :: (g6, blk 83 [.pointer (some ⟨pb, 0, none⟩)]) :: (m, .map #[] 0) :: (pb, blk 128 [.int .i64 p.hold, .int .i64 p.clo, .int .i64 p.chi, .slice a p.farms.length c, .map (some m)]) :: (b6, blk 3 [.int .i64 (d : Int)]) :: (b3, blk 26 (p.cells a c)) :: F)) p a c m pb (zAl (i := 4) (vs := [_,_,_,_,_]) rfl rfl) ha.cons.cons.cons.cons.cons.cons.cons hok d bp bb (by omega) (zAl (i := 1) (vs := [_]) rfl rfl) (zAl (i := 0) (vs := [_]) rfl rfl)) gC (zAa [_,_] [_] _) rfl ?_ ?_ ?_
  ·
   intro lp i hi Bx Xr Xr2 hY hJ hs K gD
   subst hJ
   have hi2 : i < ((allC d p.farms.length).map pad).length := by simpa using hi
   rw [List.getElem_map]
   have hlen : (((allC d p.farms.length).map pad)[i]).length = 3 := by rw [List.getElem_map]; exact zCh _
   have hl1 : ∀ y ∈ ((allC d p.farms.length).map pad)[i], -1 ≤ y ∧ y ≤ 10 := by rw [List.getElem_map]; exact allpad_in (by omega) _
   obtain ⟨l, hl⟩ : ∃ l, l = ((allC d p.farms.length).map pad)[i] := ⟨_, rfl⟩
   rw [← hl] at hlen hl1 ⊢
   replace hs := (show St _ _ (_ :: (Xr ++ (_ :: _ :: _ :: _ :: _ :: _ :: _ :: F))) from hs)
   have hb3 : Ats w0 ((bb, blk 3 [.int .i64 (d : Int)]) :: (bp, blk 83 [.pointer (some ⟨pb, 0, none⟩)]) :: (g6, blk 83 [.pointer (some ⟨pb, 0, none⟩)]) :: (m, .map #[] 0) :: (pb, blk 128 [.int .i64 p.hold, .int .i64 p.clo, .int .i64 p.chi, .slice a p.farms.length c, .map (some m)]) :: (b6, blk 3 [.int .i64 (d : Int)]) :: (b3, blk 26 (p.cells a c)) :: F) b6 0 [.int .i64 (d : Int)] := zAl (i := 5) (vs := [_]) rfl rfl
   have hb9 : Ats w0 ((bb, blk 3 [.int .i64 (d : Int)]) :: (bp, blk 83 [.pointer (some ⟨pb, 0, none⟩)]) :: (g6, blk 83 [.pointer (some ⟨pb, 0, none⟩)]) :: (m, .map #[] 0) :: (pb, blk 128 [.int .i64 p.hold, .int .i64 p.clo, .int .i64 p.chi, .slice a p.farms.length c, .map (some m)]) :: (b6, blk 3 [.int .i64 (d : Int)]) :: (b3, blk 26 (p.cells a c)) :: F) g6 0 [.pointer (some ⟨pb, 0, none⟩)] := zAl (i := 2) (vs := [_]) rfl rfl
   refine zAc (zA0 (cs := iv [0,0,0]) zAb zeroValue85 rfl hs (fun j0 j1 gE => ?_))
   refine zB6 (i := 0) (l := _) zAb sizeOf85 (by first | omega | rfl | (simp only [zL] <;> omega)) rfl rfl rfl rfl rfl gE rfl (by first | omega | rfl | (simp only [zL] <;> omega)) (fun j2 gF => ?_)
   refine zAe (zAd (gD _ _ (_ :: _ :: []) gF (fun j3 g3 => ?_)))
   replace g3 := (show St _ _ (_ :: _ :: Xr2 ++ (_ :: _ :: _ :: _ :: _ :: _ :: _ :: F)) from g3)
   refine zA8 ?_
   refine zAg (fun j4 gG => (zAc (w_p (zAk isAgg83 g3.tail.tail.drop rfl rfl hb9) rfl (w_p (zBz (i := 0) isAgg85 sizeOf85 (by first | omega | rfl | (simp only [zL] <;> omega)) g3 rfl rfl rfl) rfl ?_))))
   refine w_p (zAk isAgg3 g3.tail.tail.drop rfl rfl hb3) rfl (zAr zAb call55 rfl rfl rfl rfl (c55 (F := _ :: _ :: (Xr2 ++ ((bb, blk 3 [.int .i64 (d : Int)]) :: (bp, blk 83 [.pointer (some ⟨pb, 0, none⟩)]) :: (g6, blk 83 [.pointer (some ⟨pb, 0, none⟩)]) :: (m, .map #[] 0) :: (pb, blk 128 [.int .i64 p.hold, .int .i64 p.clo, .int .i64 p.chi, .slice a p.farms.length c, .map (some m)]) :: (b6, blk 3 [.int .i64 (d : Int)]) :: (b3, blk 26 (p.cells a c)) :: F))) p _ c m pb (zAl (i := 4) (vs := [_,_,_,_,_]) rfl rfl).app.cons.cons ha.cons.cons.cons.cons.cons.cons.cons.app.cons.cons hok l hlen hl1 _ (by omega) (by omega) g3) ?_)
   rintro _ j5 ⟨rfl, g4⟩
   refine zBs rfl rfl (zAe (zAd (gG _ _ (zAg (fun j6 gc => (zAc (zBe rfl rfl (w_p (zHh rfl rfl rfl rfl) rfl (w_p (zAi (v := .bool _) rfl rfl) rfl ?_)))))))))
   refine zBp (fun gd => ?_) (fun gd => ?_)
   ·
    try simp only [zS] at gd
    refine w_y rfl rfl rfl (zAk isAgg3 g4 rfl rfl (zAl (i := 1) (vs := [_]) rfl rfl)) rfl ?_
    refine w_y rfl rfl rfl (zCl rfl rfl rfl rfl) rfl ?_
    refine w_y rfl rfl rfl (zAi (v := .bool _) rfl rfl) rfl ?_
    refine zBp (fun ge => ?_) (fun ge => ?_)
    ·
     try simp only [zS] at ge
     refine zAj rfl rfl rfl ?_
     refine zAj rfl rfl rfl ?_
     refine zAj rfl rfl rfl ?_
     refine w_y rfl rfl rfl (zAv (v := _) rfl rfl rfl rfl) rfl ?_
     refine w_p (zAv (v := .bool _) rfl rfl rfl rfl) rfl (zAe (zAd (gc _ _ (zC0 rfl rfl ?_))))
     refine zAc (zBe rfl rfl (zAs (i := 1) (v := .int _ _) (vs := [_]) zAb sizeOf3 rfl rfl rfl rfl rfl (by simp [Value.oneCell']) g4 rfl (zNl rfl) (fun j7 gH => ?_)))
     refine zAe (zAn (zDk (_ :: []) gH.tail ?_))
     first
       | (show [_] = [_]; rw [zC5 hi2, ← hl, ← zH9 (p := p) (l := l) (day := (d : Int)) (n := toldUpto p d i) (by assumption) (by omega)]; rfl)
       | (show [_] = [_]; rw [zC5 hi2, ← hl, ← told_no (p := p) (l := l) (day := (d : Int)) (n := toldUpto p d i) (by omega)])
    try simp only [zS] at ge
    refine w_y rfl rfl rfl (zA6 rfl rfl) rfl ?_
    refine w_y rfl rfl rfl (zAk isAgg3 g4 rfl rfl (zAl (i := 1) (vs := [_]) rfl rfl)) rfl ?_
    refine w_y rfl rfl rfl (zCl rfl rfl rfl rfl) rfl ?_
    refine w_y rfl rfl rfl (zBg (v := .bool _) rfl rfl rfl rfl) rfl ?_
    refine w_p (zAv (v := .bool _) rfl rfl rfl rfl) rfl (zAe (zAd (gc _ _ (zA1 rfl rfl (fun gf => ?_) (fun gf => ?_)))))
    ·
     try simp only [zS] at gf
     refine zAc (zBe rfl rfl (zAs (i := 1) (v := .int _ _) (vs := [_]) zAb sizeOf3 rfl rfl rfl rfl rfl (by simp [Value.oneCell']) g4 rfl (zNl rfl) (fun j8 gI => ?_)))
     refine zAe (zAn (zDk (_ :: []) gI.tail ?_))
     first
       | (show [_] = [_]; rw [zC5 hi2, ← hl, ← zH9 (p := p) (l := l) (day := (d : Int)) (n := toldUpto p d i) (by assumption) (by omega)]; rfl)
       | (show [_] = [_]; rw [zC5 hi2, ← hl, ← told_no (p := p) (l := l) (day := (d : Int)) (n := toldUpto p d i) (by omega)])
    try simp only [zS] at gf
    refine zAx (zAn (zDk (_ :: []) g4.tail ?_))
    first
      | (show [_] = [_]; rw [zC5 hi2, ← hl, ← zH9 (p := p) (l := l) (day := (d : Int)) (n := toldUpto p d i) (by assumption) (by omega)]; rfl)
      | (show [_] = [_]; rw [zC5 hi2, ← hl, ← told_no (p := p) (l := l) (day := (d : Int)) (n := toldUpto p d i) (by omega)])
   try simp only [zS] at gd
   refine zAj rfl rfl rfl ?_
   refine zAj rfl rfl rfl ?_
   refine zAj rfl rfl rfl ?_
   refine zBi rfl rfl rfl ?_
   refine zBi rfl rfl rfl ?_
   refine zBi rfl rfl rfl ?_
   refine zAj rfl rfl rfl ?_
   refine w_p (zBg (v := _) rfl rfl rfl rfl) rfl (zAe (zAd (gc _ _ (zB7 rfl rfl ?_))))
   refine zAx (zAn (zDk (_ :: []) g4.tail ?_))
   first
     | (show [_] = [_]; rw [zC5 hi2, ← hl, ← zH9 (p := p) (l := l) (day := (d : Int)) (n := toldUpto p d i) (by assumption) (by omega)]; rfl)
     | (show [_] = [_]; rw [zC5 hi2, ← hl, ← told_no (p := p) (l := l) (day := (d : Int)) (n := toldUpto p d i) (by omega)])
  ·
   intro bd Bx j9 hJ hs
   subst hJ
   replace hs := (show St _ _ (_ :: _ :: _ :: _ :: _ :: _ :: _ :: _ :: _ :: F) from hs)
   refine zAn (zAd (gA _ _ (zAg (fun ja gJ => (zAg (fun jb gK => (zAc (w_p (zAk isAgg3 hs rfl rfl (zAl (i := 1) (vs := [_]) rfl rfl)) rfl ?_))))))))
   refine w_p (zCl rfl rfl rfl rfl) rfl (zAe (zAd (gK _ _ (zA1 rfl rfl (fun gg => ?_) (fun gg => ?_)))))
   ·
    try simp only [zS] at gg
    refine zAg (fun jc gL => (zAc (zBj rfl rfl (zBj rfl rfl (zAe (zAd (gL _ _ (zA7 (zAm (zFo (i := 0) (l := [.tmp 4, .tmp 5]) (vs := [_,_]) hs rfl rfl (fun jd g7 => ⟨⟨⟨rfl, (rfl : _ = Value.int _ _)⟩, ⟨rfl, (rfl : _ = Value.int _ _)⟩, trivial⟩, ?_⟩)))))))))))
    first
      | (obtain ⟨e1, e2⟩ := told_e1 (p := p) (z := z) (by assumption); rw [e1, e2]; exact ⟨rfl, g7.tail.tail.tail.tail.tail.tail.tail.tail.tail⟩)
      | (obtain ⟨e1, e2⟩ := told_e2 (p := p) (z := z) (by assumption) (by assumption); rw [e1, e2]; exact ⟨rfl, g7.tail.tail.tail.tail.tail.tail.tail.tail.tail⟩)
      | (have hall := zDi (p := p) (d := d) (i := (((allC d p.farms.length).map pad).map ia).length) (by simp); obtain ⟨e1, e2⟩ := told_e3 (p := p) (d := d) (by assumption) hdo (by omega); rw [e1, e2]; exact ⟨rfl, g7.tail.tail.tail.tail.tail.tail.tail.tail.tail⟩)
      | (have hall := zDi (p := p) (d := d) (i := (((allC d p.farms.length).map pad).map ia).length) (by simp); obtain ⟨e1, e2⟩ := told_ok (p := p) (d := d) (by assumption) hdo (by omega); rw [e1, e2, ← hall]; exact ⟨rfl, g7.tail.tail.tail.tail.tail.tail.tail.tail.tail⟩)
   try simp only [zS] at gg
   refine zAx (zAd (gJ _ _ (zAg (fun je gM => (zAc (w_p (zAk isAgg3 hs rfl rfl (zAl (i := 1) (vs := [_]) rfl rfl)) rfl (zBs rfl rfl (zBj rfl rfl (zAe (zAd (gM _ _ (zA7 (zFo (i := 0) (l := [.tmp 4, .tmp 5]) (vs := [_,_]) hs rfl rfl (fun jf g8 => ⟨⟨⟨rfl, (rfl : _ = Value.int _ _)⟩, ⟨rfl, (rfl : _ = Value.int _ _)⟩, trivial⟩, ?_⟩))))))))))))))
   first
     | (obtain ⟨e1, e2⟩ := told_e1 (p := p) (z := z) (by assumption); rw [e1, e2]; exact ⟨rfl, g8.tail.tail.tail.tail.tail.tail.tail.tail.tail⟩)
     | (obtain ⟨e1, e2⟩ := told_e2 (p := p) (z := z) (by assumption) (by assumption); rw [e1, e2]; exact ⟨rfl, g8.tail.tail.tail.tail.tail.tail.tail.tail.tail⟩)
     | (have hall := zDi (p := p) (d := d) (i := (((allC d p.farms.length).map pad).map ia).length) (by simp); obtain ⟨e1, e2⟩ := told_e3 (p := p) (d := d) (by assumption) hdo (by omega); rw [e1, e2]; exact ⟨rfl, g8.tail.tail.tail.tail.tail.tail.tail.tail.tail⟩)
     | (have hall := zDi (p := p) (d := d) (i := (((allC d p.farms.length).map pad).map ia).length) (by simp); obtain ⟨e1, e2⟩ := told_ok (p := p) (d := d) (by assumption) hdo (by omega); rw [e1, e2, ← hall]; exact ⟨rfl, g8.tail.tail.tail.tail.tail.tail.tail.tail.tail⟩)
  intro _ _ _ _ hJ
  exact hJ.elim

end Go.Proofs.Cb
set_option maxRecDepth 20000
namespace Go.Proofs.Cb
open Go.Proofs.Tryz
open Go.Rt Go.Rt.Ca
attribute [local irreducible] WL WC Con Yd At Ats Sl Agree DW

theorem zIk {p : Port} (h : ¬ (check p).2.2 = 0) : earlyD p = (0,0, (check p).2.2) := by unfold earlyD; rw [if_neg h]
theorem zIj {p : Port} (h : (check p).2.2 = 0) (h2 : (doC p).isEmpty = false) : earlyD p = (0,0,2) := by unfold earlyD; rw [if_pos h, if_neg (by rw [h2]; simp)]
theorem early_go {p : Port} (h : (check p).2.2 = 0) (h2 : (doC p).isEmpty = true) : earlyD p = earlyFrom p 0 (p.farms.drop 0) := by
  unfold earlyD; rw [if_pos h, if_pos h2]; rfl
theorem zF8 {p : Port} {i n : Nat} {k : Int} (h : (doC (kept p i k)).isEmpty = false) : earlyK p i k (n + 1) = some k := by
  rw [earlyK, if_pos (by unfold canAt; rw [h]; rfl)]
theorem earlyK_no {p : Port} {i n : Nat} {k : Int} (h : (doC (kept p i k)).isEmpty = true) : earlyK p i k (n + 1) = earlyK p i (k + 1) n := by
  rw [earlyK]; rw [if_neg (by unfold canAt; rw [h]; simp)]
theorem own_some {t : TypeId} {sz n : Nat} {v : Value} {xs : List Value} {B : List (Nat × Obj)} (h : Rt.Own v t sz n xs B) (hn : 0 < n) : ∃ b cap cs, v = .slice (some ⟨b, 0, none⟩) n cap ∧ B = [(b, blk t cs)] ∧ n ≤ cap ∧ cs.length = cap * sz ∧ cs.take (n * sz) = xs := by
  rcases h.2 with ⟨_, h0, _⟩ | ⟨b, cap, cs, h1, h2, h3, _, h5, h6⟩
  · omega
  · exact ⟨b, cap, cs, h1, h2, h3, h5, h6⟩
theorem zGm {w0 : World} {L : List (Nat × Obj)} {i b n : Nat} {t : TypeId} {cs : List Value} {l : List Farm} (hi : L[i]? = some (b, blk t cs)) (hn : l.length = n) (h : cs.take (n * 6) = (rows l).flatten) : Sl w0 L (some ⟨b, 0, none⟩) 6 (rows l) :=
  zBd hi (by intro row hr; obtain ⟨f, _, rfl⟩ := List.mem_map.1 hr; rfl) (by simpa [rows, hn] using h)
theorem c21 {w0 w : World} {F : List (Nat × Obj)} (p : Port) (a : Option Addr) (c : Nat) (hl3 : p.farms.length ≤ 9223372036854775807) (hc : p.farms.length ≤ c) (ha : Sl w0 F a 6 (rows p.farms)) (hnm : ∀ f ∈ p.farms, f.name.size ≤ 9223372036854775807)  (hs : St w0 w F) :
  Con Tryz.prog 21 [.agg (p.cells a c).toArray] w fun v w' => v = .tuple #[.int .i64 (earlyD p).1, .int .i64 (earlyD p).2.1, .int .i64 (earlyD p).2.2] ∧ St w0 w' F := by
  refine zAu (n := 65) func21 rfl rfl (zNl rfl) ?_
  refine zAg (fun K2 gh => (zAc (zCj (v := .agg #[.int _ _, .int _ _, .int _ _, .slice _ _ _]) (cs := [_,_,_,_]) zAb rfl rfl rfl hs (fun b3 w4 gd => ?_))))
  refine zBj rfl rfl (zBj rfl rfl (zBj rfl rfl (zAe (zAd (gh _ _ (zAg (fun K7 gi => (zAc (w_p (zA9 (vs := [_,_,_,_]) isAgg26 sizeOf26 gd rfl rfl (zAl (i := 0) (vs := [_,_,_,_]) rfl rfl)) rfl ?_)))))))))
  refine zAr zAb call45 rfl rfl rfl rfl (c45 p _ _ (by omega) (by omega) ha.cons hnm gd) ?_
  rintro _ w9 ⟨rfl, g3⟩
  refine w_p (zAi (v := .tuple _) rfl rfl) rfl (w_p (zAh (v := .int _ _) rfl rfl rfl) rfl (w_p (zAh (v := .int _ _) rfl rfl rfl) rfl (w_p (zAh (v := .int _ _) rfl rfl rfl) rfl (zBs rfl rfl (zAe (zAd (gi _ _ (zAg (fun gJ gj => (zA8 ?_))))))))))
  refine zAg (fun gK gk => (zAc (zBe rfl rfl (w_p (zCv rfl rfl rfl rfl) rfl (w_p (zAo (v := .bool _) rfl rfl) rfl (zAe (zAd (gk _ _ (zA1 rfl rfl (fun g6 => ?_) (fun g6 => ?_))))))))))
  ·
   try simp only [zS] at g6
   refine zAg (fun gL gl => (zAc (zBe rfl rfl (zBj rfl rfl (zBj rfl rfl (zBs rfl rfl (zAe (zAd (gl _ _ (zA7 (zAy (zAm (zBa (l := [.tmp 2, .tmp 3, .tmp 4]) (vs := [_,_,_]) rfl ⟨⟨rfl, (rfl : _ = Value.int _ _)⟩, ⟨rfl, (rfl : _ = Value.int _ _)⟩, ⟨rfl, (rfl : _ = Value.int _ _)⟩, trivial⟩ ?_)))))))))))))
   first
     | exact ⟨tup3 (zIk (by assumption)), g3.tail⟩
     | exact ⟨tup3 (zIj (by assumption) (by assumption)), g3.tail⟩
     | exact ⟨tup3 (hinv.trans (by rw [List.drop_of_length_le (by omega)]; rfl)), g3.tail⟩
     | exact ⟨tup3 (hinv.trans (by rw [zE9 hi2, hk, show (9 - kk).toNat = (9 - (kk + 1)).toNat + 1 by omega, zF8 (by assumption)])), g3.tail⟩
  try simp only [zS] at g6
  refine zAg (fun gM gm => ?_)
  have hok := check_ok (by assumption)
  have hlen3 := hok.len
  refine zAc (w_p (zA9 (vs := [_,_,_,_]) isAgg26 sizeOf26 g3 rfl rfl (zAl (i := 0) (vs := [_,_,_,_]) rfl rfl)) rfl (zAr zAb call46 rfl rfl rfl rfl (c46 p _ _ g3) ?_))
  rintro _ gN ⟨m, pb, rfl, gn⟩
  refine zAr zAb call52 rfl rfl rfl rfl (c52 (F := _ :: _ :: _ :: F) p _ _ m pb (zAl (i := 1) (vs := [_,_,_,_,_]) rfl rfl) ha.cons.cons.cons hok gn) ?_
  rintro _ gO ⟨rfl, g4⟩
  refine w_p (zAo (v := .bool _) rfl rfl) rfl (zAe (zAd (gm _ _ (zA1 rfl rfl (fun g7 => ?_) (fun g7 => ?_)))))
  ·
   try simp only [zS] at g7
   refine zAg (fun gP go => (zAc (zBj rfl rfl (zBj rfl rfl (zBj rfl rfl (zAe (zAd (go _ _ (zA7 (zAy (zAm (zBa (l := [.tmp 2, .tmp 3, .tmp 4]) (vs := [_,_,_]) rfl ⟨⟨rfl, (rfl : _ = Value.int _ _)⟩, ⟨rfl, (rfl : _ = Value.int _ _)⟩, ⟨rfl, (rfl : _ = Value.int _ _)⟩, trivial⟩ ?_))))))))))))
   first
     | exact ⟨tup3 (zIk (by assumption)), g4.tail.tail.tail⟩
     | exact ⟨tup3 (zIj (by assumption) (by assumption)), g4.tail.tail.tail⟩
     | exact ⟨tup3 (hinv.trans (by rw [List.drop_of_length_le (by omega)]; rfl)), g4.tail.tail.tail⟩
     | exact ⟨tup3 (hinv.trans (by rw [zE9 hi2, hk, show (9 - kk).toNat = (9 - (kk + 1)).toNat + 1 by omega, zF8 (by assumption)])), g4.tail.tail.tail⟩
  try simp only [zS] at g7
  refine zAx (zAn (zAd (gj _ _ (zAg (fun gQ gp => (zAg (fun gR gq => (zAc (w_p (zAf (o := 3) (i := 2) underlying26 rfl sizeOf24 rfl rfl rfl) rfl ?_)))))))))
  refine w_p (zAk isAgg24 g4 rfl rfl (zAl (i := 2) (vs := [_]) rfl rfl)) rfl (w_p (zBo underlying24 rfl rfl) rfl (w_p (zAi (v := _) rfl rfl) rfl (zAe (zAd (gq _ _ (zA8 ?_))))))
  refine zCd [2,3,4,5,6,7,25,26,27,28,29,30,31,32,33,34,35,36,37,38,39,40,41,42,43,44,45,46,47,48,49,50,51,52,53,54,55,56,57,58,59,60,61,62,63,64] [25] (fun k vs w => ∃ i : Nat, vs = [.int .i64 i] ∧ i ≤ p.farms.length ∧ k = p.farms.length - i ∧ earlyD p = earlyFrom p i (p.farms.drop i) ∧ St w0 w ((b3, blk 26 (p.cells a c)) :: F)) (p.farms.length) ?_ ?_
  ·
   exact ⟨0, rfl, by omega, by omega, early_go (by assumption) (by assumption), g4.tail.tail⟩
  intro k vs μ gS hI gT gr
  obtain ⟨i, rfl, hia, rfl, hinv, hs⟩ := hI
  refine zAg (fun gU gt => (zAc (w_p (zCl rfl rfl rfl rfl) rfl (zAe (zAd (gt _ _ (zAg (fun gV gu => (zA1 rfl rfl (fun g8 => ?_) (fun g8 => ?_))))))))))
  ·
   try simp only [zS] at g8
   refine zAx (zAd (gu _ _ (zAg (fun gW gv => (zA8 ?_)))))
   refine zAg (fun gX gw => ?_)
   have hi2 : i < p.farms.length := by omega
   have hfo := hok.farm _ (List.getElem_mem hi2)
   unfold Farm.Ok at hfo
   refine zAc (zBe rfl rfl (zBs rfl rfl (zAe (zAd (gw _ _ (zAg (fun gY gx => (zAc (w_p (zA9 (vs := [_,_,_,_]) isAgg26 sizeOf26 hs rfl rfl (zAl (i := 0) (vs := [_,_,_,_]) rfl rfl)) rfl ?_)))))))))
   refine zA0 (cs := [_,_,_,_]) zAb zeroValue26 rfl hs (fun g9 gZ gy => ?_)
   refine zAs (i := 0) (v := .agg #[.int _ _, .int _ _, .int _ _, .slice _ _ _]) (vs := [_,_,_,_]) zAb sizeOf26 rfl rfl rfl rfl rfl (by simp [Value.oneCell']) gy rfl (zNl rfl) (fun hD ge => ?_)
   refine zAe (zAd (gx _ _ (zAg (fun hG gz => (zAc (w_p (zAf (o := 3) (i := 2) underlying26 rfl sizeOf24 rfl rfl rfl) rfl (w_p (zAk isAgg24 ge rfl rfl (zAl (i := 1) (vs := [_]) rfl rfl)) rfl ?_)))))))
   refine zAr zAb call53 rfl rfl rfl rfl (c53 _ _ p.farms (by omega) (by omega) ha.cons.cons ge) ?_
   rintro _ hH ⟨BC, hown, ga⟩
   obtain ⟨bc, cap, cs0, rfl, rfl, hcap, hcl0, hcs0⟩ := own_some hown (by omega)
   replace ga := (show St _ _ (_ :: _ :: _ :: F) from ga)
   refine w_p (zAf (o := 3) (i := 2) underlying26 rfl sizeOf24 rfl rfl rfl) rfl (zAs (i := 1) (v := .slice _ _ _) (vs := [_]) zAb sizeOf24 rfl rfl rfl rfl rfl (by simp [Value.oneCell']) ga rfl (zNl rfl) (fun hN gf => ?_))
   refine zAe (zAd (gz _ _ (zAg (fun hO gA => (zAc (w_p (zAf (o := 3) (i := 2) underlying26 rfl sizeOf24 rfl rfl rfl) rfl (w_p (zAk isAgg24 gf rfl rfl (zAl (i := 1) (vs := [_]) rfl rfl)) rfl ?_)))))))
   refine zBe rfl rfl (w_p (zBk underlying24 sizeOf33 rfl rfl rfl rfl (i := _) rfl (by omega)) rfl (w_p (zAo (v := .pointer _) rfl rfl) rfl (zAe (zAd (gA _ _ (zA8 ?_))))))
   refine zCd [2,3,4,37,38,39,40,41,42,43,44,45,46,47,48,49,50,51,52,53,54,55,56,57,58,59,60,61,62,63] [] (fun k vs w => ∃ (kk : Int) (cs : List Value), vs = [] ∧ p.farms[i].keep ≤ kk ∧ kk ≤ 9 ∧ k = (9 - kk).toNat ∧ cs.length = cap * 6 ∧ cs.take (p.farms.length * 6) = (rows (setKeep p.farms i kk)).flatten ∧ earlyK p i (p.farms[i].keep + 1) (9 - p.farms[i].keep).toNat = earlyK p i (kk + 1) (9 - kk).toNat ∧ St w0 w ((bc, blk 33 cs) :: (g9, blk 26 [.int .i64 p.hold, .int .i64 p.clo, .int .i64 p.chi, .slice (some ⟨bc, 0, none⟩) p.farms.length cap]) :: (b3, blk 26 (p.cells a c)) :: F)) ((9 - p.farms[i].keep).toNat) ?_ ?_
   ·
    exact ⟨p.farms[i].keep, cs0, rfl, by omega, by omega, rfl, hcl0, (by rw [setKeep_same hi2]; exact hcs0), rfl, gf⟩
   intro k vs μ hP hI hX gB
   obtain ⟨kk, cs, rfl, hk0, hk9, rfl, hcl, hcs, hk, hs⟩ := hI
   have hrow := (sl_farm (zGm (w0 := w0) (L := (bc, blk 33 cs) :: (g9, blk 26 [.int .i64 p.hold, .int .i64 p.clo, .int .i64 p.chi, .slice (some ⟨bc, 0, none⟩) p.farms.length cap]) :: (b3, blk 26 (p.cells a c)) :: F) (i := 0) rfl (zDa _ _ _) hcs) (i := i) (by rw [zDa]; exact hi2))
   obtain ⟨bx, ox, hbx, hrow2⟩ := hrow
   cases hbx
   rw [zG0 _ hi2] at hrow2
   refine zAg (fun hY gC => (zAg (fun j0 gD => (zAc (w_p (zAi (v := .pointer _) rfl rfl) rfl (w_p (zBn rfl rfl) rfl (w_p (zAf (o := 3) (i := 3) underlying33 rfl sizeOf3 rfl rfl rfl) rfl ?_)))))))
   refine w_p (zAk isAgg3 hs rfl rfl (show Ats _ _ _ _ [_] from Ats.part hrow2 3 1)) rfl (w_p (zCl rfl rfl rfl rfl) rfl (zAe (zAd (gD _ _ (zA1 rfl rfl (fun gb => ?_) (fun gb => ?_))))))
   ·
    try simp only [zS] at gb
    refine zAx (zAd (gC _ _ (zA8 ?_)))
    refine zAg (fun j1 gE => (zAc (w_p (zAi (v := .pointer _) rfl rfl) rfl (w_p (zBn rfl rfl) rfl (w_p (zAf (o := 3) (i := 3) underlying33 rfl sizeOf3 rfl rfl rfl) rfl (w_p (zAk isAgg3 hs rfl rfl (show Ats _ _ _ _ [_] from Ats.part hrow2 3 1)) rfl ?_))))))
    refine w_p (zBq rfl rfl rfl rfl (by omega) (by omega)) rfl (w_p (zBn rfl rfl) rfl (w_p (zAf (o := 3) (i := 3) underlying33 rfl sizeOf3 rfl rfl rfl) rfl (zAs (i := 0) (v := .int _ _) (vs := [_]) zAb sizeOf3 rfl rfl rfl rfl rfl (by simp [Value.oneCell']) hs rfl (show 0 + i * 6 + 3 + 1 ≤ cs.length by omega) (fun j2 g5 => ?_))))
    have hcs2 : (cs.set (i * 6 + 3) (.int .i64 (kk + 1))).take (p.farms.length * 6) = (rows (setKeep p.farms i (kk + 1))).flatten := by rw [← setKeep_set (k := kk)]; exact cells_set (zDa _ _ _) hcs hi2
    have hcl2 : (cs.set (i * 6 + 3) (.int .i64 (kk + 1))).length = cap * 6 := by rw [List.length_set]; exact hcl
    replace g5 := (show St _ _ ((bc, blk 33 (cs.set (i * 6 + 3) (.int .i64 (kk + 1)))) :: _ :: _ :: F) from (by have h6 := g5; simp only [setMany, Nat.zero_add] at h6; exact h6))
    refine zAe (zAd (gE _ _ (zAg (fun j3 gF => (zAc (w_p (zA9 (vs := [_,_,_,_]) isAgg26 sizeOf26 g5 rfl rfl (zAl (i := 1) (vs := [_,_,_,_]) rfl rfl)) rfl (zAr zAb call46 rfl rfl rfl rfl (c46 p _ _ g5) ?_)))))))
    rintro _ j4 ⟨m, pb, rfl, gG⟩
    refine zAr zAb call52 rfl rfl rfl rfl (c52 (F := _ :: _ :: _ :: _ :: _ :: F) (kept p i (kk + 1)) (some ⟨bc, 0, none⟩) cap m pb (show Ats w0 _ pb 0 [.int .i64 p.hold, .int .i64 p.clo, .int .i64 p.chi, .slice _ (setKeep p.farms i (kk + 1)).length cap, .map (some m)] from by rw [zDa]; exact zAl (i := 1) (vs := [_,_,_,_,_]) rfl rfl) (zGm (i := 2) rfl (zDa _ _ _) hcs2) (kept_ok hok hi2 (by omega) (by omega)) gG) ?_
    rintro _ j5 ⟨rfl, gg⟩
    refine zAe (zAd (gF _ _ (zA1 rfl rfl (fun gc => ?_) (fun gc => ?_))))
    ·
     try simp only [zS] at gc
     refine zAg (fun j6 gH => ?_)
     have hrow := (sl_farm (zGm (w0 := w0) (L := (bc, blk 33 (cs.set (i * 6 + 3) (.int .i64 (kk + 1)))) :: (g9, blk 26 [.int .i64 p.hold, .int .i64 p.clo, .int .i64 p.chi, .slice (some ⟨bc, 0, none⟩) p.farms.length cap]) :: (b3, blk 26 (p.cells a c)) :: F) (i := 0) rfl (zDa _ _ _) hcs2) (i := i) (by rw [zDa]; exact hi2))
     obtain ⟨bx, ox, hbx, hrow2⟩ := hrow
     cases hbx
     rw [zG0 _ hi2] at hrow2
     obtain ⟨by_, oy, rfl, hfar⟩ := sl_farm ha hi2
     refine zCe [] [(0,0),(1,0),(2,0),(3,0),(4,1),(5,0),(6,1),(7,0),(8,0),(9,0),(10,1),(11,0),(12,0),(13,0),(14,0)] zB0 (by kernel_rfl) gg (fun j7 g0 => ?_)
     refine d_w rfl (fun _ => zA6 rfl rfl) rfl ?_
     refine d_w rfl (fun _ => zAi (v := .pointer _) rfl rfl) rfl ?_
     refine d_w rfl (fun _ => zBn rfl rfl) rfl ?_
     refine d_w rfl (fun _ => zAf (o := 3) (i := 3) underlying33 rfl sizeOf3 rfl rfl rfl) rfl ?_
     refine zBb rfl zAb rfl g0 (fun _ hq => (zAk isAgg3 hq.tail.tail rfl rfl (show Ats _ _ _ _ [_] from Ats.part hrow2 3 1))) ?_
     refine d_w rfl (fun _ => zAf (o := 3) (i := 2) underlying26 rfl sizeOf24 rfl rfl rfl) rfl ?_
     refine zBb rfl zAb rfl g0 (fun _ hq => (zAk isAgg24 hq rfl rfl (zAl (i := 4) (vs := [_]) rfl rfl))) ?_
     refine d_w rfl (fun _ => zA6 rfl rfl) rfl ?_
     refine d_w rfl (fun _ => zBk underlying24 sizeOf33 rfl rfl rfl rfl (i := _) rfl (by omega)) rfl ?_
     refine d_w rfl (fun _ => zAf (o := 3) (i := 3) underlying33 rfl sizeOf3 rfl rfl rfl) rfl ?_
     refine zBb rfl zAb rfl g0 (fun _ hq => (zAk isAgg3 hq.tail.tail.tail.tail.tail rfl rfl (show Ats _ _ _ _ [_] from Ats.part hfar 3 1))) ?_
     refine d_w rfl (fun _ => zHg rfl rfl rfl rfl (by omega) (by omega)) rfl ?_
     refine d_w rfl (fun _ => zA2 rfl rfl) rfl ?_
     refine d_w rfl (fun _ => zA2 rfl rfl) rfl ?_
     refine d_w rfl (fun _ => zAo (v := _) rfl rfl) rfl ?_
     refine zBh ?_
     refine zAd (gH _ _ (zA7 (zAy (zAm (zAy (zAy (zAm (zAm (zAy (zAm (zBa (l := [.tmp 2, .tmp 3, .tmp 4]) (vs := [_,_,_]) rfl ⟨⟨rfl, (rfl : _ = Value.int _ _)⟩, ⟨rfl, (rfl : _ = Value.int _ _)⟩, ⟨rfl, (rfl : _ = Value.int _ _)⟩, trivial⟩ ?_)))))))))))
     first
       | exact ⟨tup3 (zIk (by assumption)), g0.tail.tail.tail.tail.tail⟩
       | exact ⟨tup3 (zIj (by assumption) (by assumption)), g0.tail.tail.tail.tail.tail⟩
       | exact ⟨tup3 (hinv.trans (by rw [List.drop_of_length_le (by omega)]; rfl)), g0.tail.tail.tail.tail.tail⟩
       | exact ⟨tup3 (hinv.trans (by rw [zE9 hi2, hk, show (9 - kk).toNat = (9 - (kk + 1)).toNat + 1 by omega, zF8 (by assumption)])), g0.tail.tail.tail.tail.tail⟩
    try simp only [zS] at gc
    refine zAx (zAn (zAd (gB _ _ (nxI ((9 - (kk + 1)).toNat) (by omega) ?_))))
    exact ⟨kk + 1, _, rfl, by omega, by omega, rfl, hcl2, hcs2, (by rw [hk, show (9 - kk).toNat = (9 - (kk + 1)).toNat + 1 by omega]; exact earlyK_no (by assumption)), gg.tail.tail⟩
   try simp only [zS] at gb
   refine zBy (zAq (zAq (zBc (zAn (zAd (gv _ _ (zAc (w_p (zBq rfl rfl rfl rfl (by omega) (by omega)) rfl (zBe rfl rfl (zAe (zAd (gr _ _ (nxI (p.farms.length - (i + 1)) (by omega) ?_)))))))))))))
   exact ⟨i + 1, rfl, by omega, rfl, (by rw [hinv, zE9 hi2, hk, show (9 - kk).toNat = 0 by omega]; rfl), hs.tail.tail⟩
  try simp only [zS] at g8
  refine zBy (zAq (zAq (zBc (zAd (gp _ _ (zAg (fun j8 gI => (zAc (zBj rfl rfl (zBj rfl rfl (zBj rfl rfl (zAe (zAd (gI _ _ (zA7 (zBa (l := [.tmp 2, .tmp 3, .tmp 4]) (vs := [_,_,_]) rfl ⟨⟨rfl, (rfl : _ = Value.int _ _)⟩, ⟨rfl, (rfl : _ = Value.int _ _)⟩, ⟨rfl, (rfl : _ = Value.int _ _)⟩, trivial⟩ ?_))))))))))))))))
  first
    | exact ⟨tup3 (zIk (by assumption)), hs.tail⟩
    | exact ⟨tup3 (zIj (by assumption) (by assumption)), hs.tail⟩
    | exact ⟨tup3 (hinv.trans (by rw [List.drop_of_length_le (by omega)]; rfl)), hs.tail⟩
    | exact ⟨tup3 (hinv.trans (by rw [zE9 hi2, hk, show (9 - kk).toNat = (9 - (kk + 1)).toNat + 1 by omega, zF8 (by assumption)])), hs.tail⟩

end Go.Proofs.Cb
set_option maxRecDepth 20000
namespace Go.Proofs.Cb
open Go.Proofs.Tryz
open Go.Rt Go.Rt.Ca
attribute [local irreducible] WL WC Con Yd At Ats Sl Agree DW
theorem Try_CR_fb8 (x0 : Int) (x1 : Int) (w : World) : (Instr.build 23 [(0, .int .i64 x0),(1, .int .i64 x1)].toArray).run Tryz.prog w = .ok (.agg #[.int .i64 x0, .int .i64 x1]) w := by kernel_rfl
theorem zH1 (x0 : ByteArray) (x1 : Int) (x2 : Int) (x3 : Int) (x4 : Int) (x5 : Int) (w : World) : (Instr.build 33 [(0, .string x0),(1, .int .i64 x1),(2, .int .i64 x2),(3, .int .i64 x3),(4, .agg #[.int .i64 x4, .int .i64 x5])].toArray).run Tryz.prog w = .ok (.agg #[.string x0, .int .i64 x1, .int .i64 x2, .int .i64 x3, .int .i64 x4, .int .i64 x5]) w := by kernel_rfl
theorem Try_CR_fb10 (x0 : ByteArray) (x1 : Int) (x2 : Int) (x3 : Int) (x4 : Int) (x5 : Int) (x6 : ByteArray) (x7 : Int) (x8 : Int) (x9 : Int) (x10 : Int) (x11 : Int) (x12 : ByteArray) (x13 : Int) (x14 : Int) (x15 : Int) (x16 : Int) (x17 : Int) (w : World) : (Instr.buildSlice 24 3 [(0, .agg #[.string x0, .int .i64 x1, .int .i64 x2, .int .i64 x3, .int .i64 x4, .int .i64 x5]),(1, .agg #[.string x6, .int .i64 x7, .int .i64 x8, .int .i64 x9, .int .i64 x10, .int .i64 x11]),(2, .agg #[.string x12, .int .i64 x13, .int .i64 x14, .int .i64 x15, .int .i64 x16, .int .i64 x17])].toArray).run Tryz.prog w = .ok (.slice (some ⟨w.heap.size, 0, none⟩) 3 3) (w.alloc (Go.Rt.blk 33 [.string x0, .int .i64 x1, .int .i64 x2, .int .i64 x3, .int .i64 x4, .int .i64 x5, .string x6, .int .i64 x7, .int .i64 x8, .int .i64 x9, .int .i64 x10, .int .i64 x11, .string x12, .int .i64 x13, .int .i64 x14, .int .i64 x15, .int .i64 x16, .int .i64 x17])) := by kernel_rfl
theorem Try_CR_fb11 (x0 : Int) (x1 : Int) (x2 : Int) (x3 : Option Addr) (l3 c3 : Nat) (w : World) : (Instr.build 26 [(0, .int .i64 x0),(1, .agg #[.int .i64 x1, .int .i64 x2]),(2, .slice x3 l3 c3)].toArray).run Tryz.prog w = .ok (.agg #[.int .i64 x0, .int .i64 x1, .int .i64 x2, .slice x3 l3 c3]) w := by kernel_rfl
theorem gen_Z {w0 w : World} {L : List (Nat × Obj)} (hs : St w0 w L) : ∃ Z, Z = L ∧ St w0 w Z := ⟨L, rfl, hs⟩
theorem zEl {k : FuncId} {args : List Value} {w : World} {x : Bool} {S : World → Prop} (h : Con Tryz.prog k args w fun v w' => v = .bool x ∧ S w') (hx : x = true) : Con Tryz.prog k args w fun v w' => v = .bool true ∧ S w' := by subst hx; exact h
theorem c24 {w0 w : World} {F : List (Nat × Obj)} (x y : Int) (hs : St w0 w F) :
  Con Tryz.prog 24 [.int .i64 x, .int .i64 y] w fun v w' => v = .agg #[.int .i64 x, .int .i64 y] ∧ St w0 w' F := by
  refine zAu (n := 8) func24 rfl rfl (zNl rfl) ?_
  refine zAg (fun K2 g3 => (zAc (zA0 (cs := [_,_]) zAb zeroValue23 rfl hs (fun b3 w4 g4 => ?_))))
  refine zAe (zAd (g3 _ _ (zAg (fun K7 g5 => (zAc (zBe rfl rfl (zBe rfl rfl (w_p (zBx (ps := [(0, _),(1, _)]) (pv := [(0, .int _ _),(1, .int _ _)]) rfl rfl (fun w => Try_CR_fb8 _ _ w)) rfl ?_))))))))
  refine zAs (i := 0) (v := .agg #[.int _ _, .int _ _]) (vs := [_,_]) zAb sizeOf23 rfl rfl rfl rfl rfl (by simp [Value.oneCell']) g4 rfl (zNl rfl) (fun w8 g0 => ?_)
  refine zAe (zAd (g5 _ _ (zA7 (zBa (l := [.cell 4 23]) (vs := [_]) rfl ⟨⟨rfl, _, rfl, zCo (vs := [_,_]) isAgg23 sizeOf23 g0 (zAl (i := 0) (vs := [_,_]) rfl rfl)⟩, trivial⟩ ?_))))
  exact ⟨rfl, g0.tail⟩

theorem c16 {w0 w : World} {F : List (Nat × Obj)} (x : Int) (n : Nat) (hn : n ≤ 3) (hs : St w0 w F) :
  Con Tryz.prog 16 [.int .i64 x, .int .i64 (n : Int)] w fun v w' => ∃ b, v = .agg #[.int .i64 50, .int .i64 x, .int .i64 8, .slice (some ⟨b, 0, none⟩) n 3] ∧ St w0 w' ((b, blk 33 (rows [fAlto, fBajo, fCima]).flatten) :: F) := by
  refine zAu (n := 19) func16 rfl rfl (zNl rfl) ?_
  refine zAg (fun K2 g4 => (zAc (zA0 (cs := [_,_,_,_]) zAb zeroValue26 rfl hs (fun b3 w4 g5 => ?_))))
  refine zAe (zAd (g4 _ _ (zAg (fun K7 g6 => (zAc (zAr zAb call24 rfl rfl rfl rfl (c24 _ _ g5) ?_))))))
  rintro _ w9 ⟨rfl, g7⟩
  refine w_p (zBx (ps := [(0, _),(1, _),(2, _),(3, _),(4, _)]) (pv := [(0, .string _),(1, .int _ _),(2, .int _ _),(3, .int _ _),(4, .agg #[.int _ _, .int _ _])]) rfl rfl (fun w => zH1 _ _ _ _ _ _ w)) rfl ?_
  refine zAr zAb call24 rfl rfl rfl rfl (c24 _ _ g7) ?_
  rintro _ gd ⟨rfl, g8⟩
  refine w_p (zBx (ps := [(0, _),(1, _),(2, _),(3, _),(4, _)]) (pv := [(0, .string _),(1, .int _ _),(2, .int _ _),(3, .int _ _),(4, .agg #[.int _ _, .int _ _])]) rfl rfl (fun w => zH1 _ _ _ _ _ _ w)) rfl ?_
  refine zAr zAb call24 rfl rfl rfl rfl (c24 _ _ g8) ?_
  rintro _ ge ⟨rfl, g9⟩
  refine w_p (zBx (ps := [(0, _),(1, _),(2, _),(3, _),(4, _)]) (pv := [(0, .string _),(1, .int _ _),(2, .int _ _),(3, .int _ _),(4, .agg #[.int _ _, .int _ _])]) rfl rfl (fun w => zH1 _ _ _ _ _ _ w)) rfl ?_
  refine zA3 (ps := [(0, _),(1, _),(2, _)]) (pv := [(0, .agg #[.string _, .int _ _, .int _ _, .int _ _, .int _ _, .int _ _]),(1, .agg #[.string _, .int _ _, .int _ _, .int _ _, .int _ _, .int _ _]),(2, .agg #[.string _, .int _ _, .int _ _, .int _ _, .int _ _, .int _ _])]) (cs := [_,_,_,_,_,_,_,_,_,_,_,_,_,_,_,_,_,_]) zAb rfl rfl (fun w => Try_CR_fb10 _ _ _ _ _ _ _ _ _ _ _ _ _ _ _ _ _ _ w) g9 (fun gf gg ga => ?_)
  refine w_p (zAo (v := .slice _ _ _) rfl rfl) rfl (zAe (zAd (g6 _ _ (zAg (fun gh gb => (zCe [6] [(0,0),(2,0),(3,0),(4,0),(1,2),(5,0),(6,3)] zB0 (by kernel_rfl) ga (fun gi gc => ?_)))))))
  refine d_w rfl (fun _ => zA6 rfl rfl) rfl ?_
  refine d_w rfl (fun _ => zAi (v := .slice _ _ _) rfl rfl) rfl ?_
  refine d_w rfl (fun _ => zA6 rfl rfl) rfl ?_
  refine d_w rfl (fun _ => y_sliceS (l' := 0) (h' := n) underlying24 sizeOf33 rfl rfl rfl ⟨rfl, _,_, rfl, rfl⟩ (by omega) (by omega)) rfl ?_
  refine zBl rfl ?_
  refine zAr zAb call24 rfl rfl rfl rfl (c24 _ _ gc) ?_
  rintro _ gj ⟨rfl, g0⟩
  refine zAe (qn ⟨g0, ?_⟩)
  refine d_w rfl (fun _ => zBx (ps := [(0, _),(1, _),(2, _)]) (pv := [(0, .int _ _),(1, .agg #[.int _ _, .int _ _]),(2, .slice _ _ _)]) rfl rfl (fun w => Try_CR_fb11 _ _ _ _ _ _ w)) rfl ?_
  refine zBm rfl ?_
  refine zAs (i := 1) (v := .agg #[.int _ _, .int _ _, .int _ _, .slice _ _ _]) (vs := [_,_,_,_]) zAb sizeOf26 rfl rfl rfl rfl rfl (by simp [Value.oneCell']) g0 rfl (zNl rfl) (fun gk g3 => ?_)
  refine zAe (qn ?_)
  refine zBh ?_
  refine zAd (gb _ _ (zA7 (zBa (l := [.cell 4 26]) (vs := [_]) rfl ⟨⟨rfl, _, rfl, zCo (vs := [_,_,_,_]) isAgg26 sizeOf26 g3 (zAl (i := 1) (vs := [_,_,_,_]) rfl rfl)⟩, trivial⟩ ?_)))
  exact ⟨_, rfl, keep_front (Y := [_]) g3⟩

end Go.Proofs.Cb
set_option maxRecDepth 20000
namespace Go.Proofs.Cb
open Go.Proofs.Tryz
open Go.Rt Go.Rt.Ca
attribute [local irreducible] WL WC Con Yd At Ats Sl Agree DW
theorem zH0 (x0 : Int) (x1 : Int) (x2 : Int) (w : World) : (Instr.buildSlice 35 3 [(0, .int .i64 x0),(1, .int .i64 x1),(2, .int .i64 x2)].toArray).run Tryz.prog w = .ok (.slice (some ⟨w.heap.size, 0, none⟩) 3 3) (w.alloc (Go.Rt.blk 3 [.int .i64 x0, .int .i64 x1, .int .i64 x2])) := by kernel_rfl
theorem Try_CS_fb9 (x0 : Int) (x1 : Int) (x2 : Int) (x3 : Int) (x4 : Int) (x5 : Int) (x6 : Int) (x7 : Int) (w : World) : (Instr.buildSlice 36 4 [(0, .agg #[.int .i64 x0, .int .i64 x1]),(1, .agg #[.int .i64 x2, .int .i64 x3]),(2, .agg #[.int .i64 x4, .int .i64 x5]),(3, .agg #[.int .i64 x6, .int .i64 x7])].toArray).run Tryz.prog w = .ok (.slice (some ⟨w.heap.size, 0, none⟩) 4 4) (w.alloc (Go.Rt.blk 23 [.int .i64 x0, .int .i64 x1, .int .i64 x2, .int .i64 x3, .int .i64 x4, .int .i64 x5, .int .i64 x6, .int .i64 x7])) := by kernel_rfl
theorem c5 {w0 w : World} {F : List (Nat × Obj)}  (hs : St w0 w F) :
  Con Tryz.prog 5 [] w fun v w' => v = .bool true ∧ St w0 w' F := by
  refine zAu (n := 226) func5 rfl rfl (zNl rfl) ?_
  refine zAg (fun K2 gf => (zAc (zBj rfl rfl (zAe (zAd (gf _ _ (zAg (fun K4 gg => (zAc (zAr zAb call16 rfl rfl rfl rfl (c16 6 3 (by omega) hs) ?_))))))))))
  rintro _ w6 ⟨s1, rfl, gh⟩
  refine zAr zAb call16 rfl rfl rfl rfl (c16 5 3 (by omega) gh) ?_
  rintro _ w9 ⟨s2, rfl, gi⟩
  refine zAr zAb call16 rfl rfl rfl rfl (c16 6 2 (by omega) gi) ?_
  rintro _ hD ⟨s3, rfl, gj⟩
  refine zAr zAb call16 rfl rfl rfl rfl (c16 5 2 (by omega) gj) ?_
  rintro _ hG ⟨s4, rfl, gk⟩
  refine zA0 (cs := [_,_,_,_]) zAb zeroValue26 rfl gk (fun gl hH gm => ?_)
  refine zA0 (cs := [_,_,_,_]) zAb zeroValue26 rfl gm (fun gn hN go => ?_)
  refine zA0 (cs := [_,_,_,_]) zAb zeroValue26 rfl go (fun gp hO gq => ?_)
  refine zA0 (cs := [_,_,_,_]) zAb zeroValue26 rfl gq (fun gr hP gt => ?_)
  refine zAs (i := 3) (v := .agg #[.int _ _, .int _ _, .int _ _, .slice _ _ _]) (vs := [_,_,_,_]) zAb sizeOf26 rfl rfl rfl rfl rfl (by simp [Value.oneCell']) gt rfl (zNl rfl) (fun hX gu => ?_)
  refine zAs (i := 2) (v := .agg #[.int _ _, .int _ _, .int _ _, .slice _ _ _]) (vs := [_,_,_,_]) zAb sizeOf26 rfl rfl rfl rfl rfl (by simp [Value.oneCell']) gu rfl (zNl rfl) (fun hY gv => ?_)
  refine zAs (i := 1) (v := .agg #[.int _ _, .int _ _, .int _ _, .slice _ _ _]) (vs := [_,_,_,_]) zAb sizeOf26 rfl rfl rfl rfl rfl (by simp [Value.oneCell']) gv rfl (zNl rfl) (fun j0 gw => ?_)
  refine zAs (i := 0) (v := .agg #[.int _ _, .int _ _, .int _ _, .slice _ _ _]) (vs := [_,_,_,_]) zAb sizeOf26 rfl rfl rfl rfl rfl (by simp [Value.oneCell']) gw rfl (zNl rfl) (fun j1 gx => ?_)
  refine zAe (zAd (gg _ _ (zAg (fun j2 gy => (zAc (zA3 (ps := [(0, _),(1, _),(2, _)]) (pv := [(0, .int _ _),(1, .int _ _),(2, .int _ _)]) (cs := [_,_,_]) zAb rfl rfl (fun w => zH0 _ _ _ w) gx (fun g0 j3 gz => ?_)))))))
  refine w_p (zAo (v := .slice _ _ _) rfl rfl) rfl (zAe (zAd (gy _ _ (zAg (fun j4 gA => ?_)))))
  obtain ⟨Z, hZ, hsZ⟩ := gen_Z gz
  have hP1 : Ats w0 Z gl 0 ((exPort 6 3).cells (some ⟨s1,0, none⟩) 3) := by rw [hZ]; exact zAl (i := 4) (vs := [_,_,_,_]) rfl rfl
  have hS1 : Sl w0 Z (some ⟨s1,0, none⟩) 6 (rows (exPort 6 3).farms) := by rw [hZ]; exact zBd (i := 8) rfl (by intro row hr; obtain ⟨f, _, rfl⟩ := List.mem_map.1 hr; rfl) rfl
  have hP2 : Ats w0 Z gn 0 ((exPort 5 3).cells (some ⟨s2,0, none⟩) 3) := by rw [hZ]; exact zAl (i := 3) (vs := [_,_,_,_]) rfl rfl
  have hS2 : Sl w0 Z (some ⟨s2,0, none⟩) 6 (rows (exPort 5 3).farms) := by rw [hZ]; exact zBd (i := 7) rfl (by intro row hr; obtain ⟨f, _, rfl⟩ := List.mem_map.1 hr; rfl) rfl
  have hP3 : Ats w0 Z gp 0 ((exPort 6 2).cells (some ⟨s3,0, none⟩) 3) := by rw [hZ]; exact zAl (i := 2) (vs := [_,_,_,_]) rfl rfl
  have hS3 : Sl w0 Z (some ⟨s3,0, none⟩) 6 (rows (exPort 6 2).farms) := by rw [hZ]; exact zBd (i := 6) rfl (by intro row hr; obtain ⟨f, _, rfl⟩ := List.mem_map.1 hr; rfl) rfl
  have hP4 : Ats w0 Z gr 0 ((exPort 5 2).cells (some ⟨s4,0, none⟩) 3) := by rw [hZ]; exact zAl (i := 1) (vs := [_,_,_,_]) rfl rfl
  have hS4 : Sl w0 Z (some ⟨s4,0, none⟩) 6 (rows (exPort 5 2).farms) := by rw [hZ]; exact zBd (i := 5) rfl (by intro row hr; obtain ⟨f, _, rfl⟩ := List.mem_map.1 hr; rfl) rfl
  have hl5 : Sl w0 Z (some ⟨g0,0, none⟩) 1 (([2,3, -1] : List Int).map fun x => [Value.int .i64 x]) := by rw [hZ]; exact zBd (i := 0) (rows := [[_], [_], [_]]) rfl (by simp) rfl
  refine zAc (w_p (zA9 (vs := [_,_,_,_]) isAgg26 sizeOf26 hsZ rfl rfl hP2) rfl (w_p (zAi (v := .slice _ _ _) rfl rfl) rfl (zAr zAb call9 rfl rfl rfl rfl ((c9 (exPort 5 3) (some ⟨s2,0, none⟩) 3 (by decide) (by decide) hS2 (zHr _ _) (some ⟨g0,0, none⟩) 3 [2,3, -1] (by decide) hl5 hsZ).mono (fun v w' h => by rw [ex_q5] at h; rw [ex_q5v] at h;  exact h)) ?_)))
  rintro _ j5 ⟨B1, aq1, cq1, rfl, hq1, g3⟩
  replace g3 := (show St _ _ (B1 ++ (Z)) from g3)
  refine w_p (zAi (v := .tuple _) rfl rfl) rfl (w_p (zAh (v := .slice _ _ _) rfl rfl rfl) rfl (w_p (zAh (v := .int _ _) rfl rfl rfl) rfl (w_p (zAo (v := .slice _ _ _) rfl rfl) rfl (zBs rfl rfl (zAe (zAd (gA _ _ (zAg (fun j6 gB => (zAc (w_p (zA9 (vs := [_,_,_,_]) isAgg26 sizeOf26 g3.drop rfl rfl hP1) rfl ?_)))))))))))
  refine w_p (zAi (v := .slice _ _ _) rfl rfl) rfl (zAr zAb call17 rfl rfl rfl rfl ((c17 (exPort 6 3) (some ⟨s1,0, none⟩) 3 (by decide) (by decide) hS1.app (zHr _ _) (some ⟨g0,0, none⟩) 3 [2,3, -1] (by decide) hl5.app g3).mono (fun v w' h => by rw [ex_f6] at h; rw [ex_q6] at h;  exact h)) ?_)
  rintro _ j7 ⟨rfl, g7⟩
  refine w_p (zAi (v := .tuple _) rfl rfl) rfl (w_p (zAh (v := .int _ _) rfl rfl rfl) rfl (w_p (zAh (v := .int _ _) rfl rfl rfl) rfl (zBs rfl rfl (zBs rfl rfl (zAe (zAd (gB _ _ (zAg (fun j8 gC => (zAc (w_p (zA9 (vs := [_,_,_,_]) isAgg26 sizeOf26 g7.drop rfl rfl hP2) rfl ?_)))))))))))
  refine w_p (zAi (v := .slice _ _ _) rfl rfl) rfl (zAr zAb call17 rfl rfl rfl rfl ((c17 (exPort 5 3) (some ⟨s2,0, none⟩) 3 (by decide) (by decide) hS2.app (zHr _ _) (some ⟨g0,0, none⟩) 3 [2,3, -1] (by decide) hl5.app g7).mono (fun v w' h => by rw [ex_f5] at h; rw [ex_q5] at h;  exact h)) ?_)
  rintro _ j9 ⟨rfl, g8⟩
  refine w_p (zAi (v := .tuple _) rfl rfl) rfl (w_p (zAh (v := .int _ _) rfl rfl rfl) rfl (w_p (zAh (v := .int _ _) rfl rfl rfl) rfl (zBs rfl rfl (zBs rfl rfl (zAe (zAd (gC _ _ (zAg (fun ja gD => (zAc (w_p (zA9 (vs := [_,_,_,_]) isAgg26 sizeOf26 g8.drop rfl rfl hP2) rfl ?_)))))))))))
  refine zA3 (ps := [(0, _),(1, _),(2, _)]) (pv := [(0, .int _ _),(1, .int _ _),(2, .int _ _)]) (cs := [_,_,_]) zAb rfl rfl (fun w => zH0 _ _ _ w) g8 (fun gE jb gF => ?_)
  refine zAr zAb call17 rfl rfl rfl rfl ((c17 (exPort 5 3) (some ⟨s2,0, none⟩) 3 (by decide) (by decide) hS2.app.cons (zHr _ _) (some ⟨gE,0, none⟩) 3 [-1, -1,3] (by decide) (zBd (i := 0) (rows := [[_], [_], [_]]) rfl (by simp) rfl) gF).mono (fun v w' h => by rw [ex_f5b] at h; rw [ex_q5b] at h;  exact h)) ?_
  rintro _ jc ⟨rfl, g9⟩
  refine w_p (zAi (v := .tuple _) rfl rfl) rfl (w_p (zAh (v := .int _ _) rfl rfl rfl) rfl (w_p (zAh (v := .int _ _) rfl rfl rfl) rfl (zBs rfl rfl (zBs rfl rfl (zAe (zAd (gD _ _ (zAg (fun jd gG => (zAc (w_p (zA9 (vs := [_,_,_,_]) isAgg26 sizeOf26 g9.tail.drop rfl rfl hP2) rfl ?_)))))))))))
  refine w_p (zAi (v := .slice _ _ _) rfl rfl) rfl (zAr zAb call18 rfl rfl rfl rfl ((c18 (exPort 5 3) (some ⟨s2,0, none⟩) 3 (by decide) (by decide) hS2.app.cons (zHr _ _) (some ⟨g0,0, none⟩) 3 [2,3, -1] (by decide) hl5.app.cons g9).mono (fun v w' h => by rw [ex_v5] at h; rw [ex_q5] at h;  exact h)) ?_)
  rintro _ je ⟨rfl, ga⟩
  refine w_p (zAi (v := .tuple _) rfl rfl) rfl (w_p (zAh (v := .int _ _) rfl rfl rfl) rfl (w_p (zAh (v := .int _ _) rfl rfl rfl) rfl (zBs rfl rfl (zBs rfl rfl (zAe (zAd (gG _ _ (zAg (fun jf gH => (zAc (w_p (zA9 (vs := [_,_,_,_]) isAgg26 sizeOf26 ga.tail.drop rfl rfl hP1) rfl ?_)))))))))))
  refine zAr zAb call19 rfl rfl rfl rfl ((c19 (exPort 6 3) (some ⟨s1,0, none⟩) 3 (by decide) (by decide) hS1.app.cons (zHr _ _) ga).mono (fun v w' h => by rw [ex_p6] at h; rw [ex_p6v] at h; rw [ex_p6e] at h;  exact h)) ?_
  rintro _ jg ⟨B2, aq2, cq2, rfl, hq2, g4⟩
  replace g4 := (show St _ _ (B2 ++ (_ :: B1 ++ (Z))) from g4)
  refine w_p (zAi (v := .tuple _) rfl rfl) rfl (w_p (zAh (v := .slice _ _ _) rfl rfl rfl) rfl (w_p (zAh (v := .int _ _) rfl rfl rfl) rfl (w_p (zAh (v := .int _ _) rfl rfl rfl) rfl (w_p (zAo (v := .slice _ _ _) rfl rfl) rfl ?_))))
  refine zBs rfl rfl (zBs rfl rfl (zAe (zAd (gH _ _ (zAg (fun jh gI => (zAc (w_p (zA9 (vs := [_,_,_,_]) isAgg26 sizeOf26 g4.drop.tail.drop rfl rfl hP2) rfl (zAr zAb call19 rfl rfl rfl rfl ((c19 (exPort 5 3) (some ⟨s2,0, none⟩) 3 (by decide) (by decide) hS2.app.cons.app (zHr _ _) g4).mono (fun v w' h => by rw [ex_p5] at h; rw [ex_p5v] at h; rw [ex_p5e] at h;  exact h)) ?_)))))))))
  rintro _ ji ⟨B3, aq3, cq3, rfl, hq3, g5⟩
  replace g5 := (show St _ _ (B3 ++ (B2 ++ (_ :: B1 ++ (Z)))) from g5)
  refine w_p (zAi (v := .tuple _) rfl rfl) rfl (w_p (zAh (v := .slice _ _ _) rfl rfl rfl) rfl (w_p (zAh (v := .int _ _) rfl rfl rfl) rfl (w_p (zAh (v := .int _ _) rfl rfl rfl) rfl (w_p (zAo (v := .slice _ _ _) rfl rfl) rfl ?_))))
  refine zBs rfl rfl (zBs rfl rfl (zAe (zAd (gI _ _ (zAg (fun jj gJ => (zAc (w_p (zA9 (vs := [_,_,_,_]) isAgg26 sizeOf26 g5.drop.drop.tail.drop rfl rfl hP4) rfl (zAr zAb call19 rfl rfl rfl rfl ((c19 (exPort 5 2) (some ⟨s4,0, none⟩) 3 (by decide) (by decide) hS4.app.cons.app.app (zHr _ _) g5).mono (fun v w' h => by rw [ex_t5] at h; rw [ex_t5v] at h; rw [ex_t5e] at h;  exact h)) ?_)))))))))
  rintro _ jk ⟨B4, aq4, cq4, rfl, hq4, g6⟩
  replace g6 := (show St _ _ (B4 ++ (B3 ++ (B2 ++ (_ :: B1 ++ (Z))))) from g6)
  refine w_p (zAi (v := .tuple _) rfl rfl) rfl (w_p (zAh (v := .slice _ _ _) rfl rfl rfl) rfl (w_p (zAh (v := .int _ _) rfl rfl rfl) rfl (w_p (zAh (v := .int _ _) rfl rfl rfl) rfl (w_p (zAo (v := .slice _ _ _) rfl rfl) rfl ?_))))
  refine zBs rfl rfl (zBs rfl rfl (zAe (zAd (gJ _ _ (zAg (fun jl gK => (zAc (w_p (zA9 (vs := [_,_,_,_]) isAgg26 sizeOf26 g6.drop.drop.drop.tail.drop rfl rfl hP3) rfl (zAr zAb call20 rfl rfl rfl rfl ((c20 (exPort 6 2) (some ⟨s3,0, none⟩) 3 (by decide) (by decide) hS3.app.cons.app.app.app (zHr _ _) 0 g6).mono (fun v w' h => by rw [ex_h60] at h; rw [ex_h60e] at h;  exact h)) ?_)))))))))
  rintro _ jm ⟨rfl, gb⟩
  refine w_p (zAi (v := .tuple _) rfl rfl) rfl (w_p (zAh (v := .int _ _) rfl rfl rfl) rfl (w_p (zAh (v := .int _ _) rfl rfl rfl) rfl (zBs rfl rfl (zBs rfl rfl (zAe (zAd (gK _ _ (zAg (fun jn gL => (zAc (w_p (zA9 (vs := [_,_,_,_]) isAgg26 sizeOf26 gb.drop.drop.drop.tail.drop rfl rfl hP4) rfl ?_)))))))))))
  refine zAr zAb call21 rfl rfl rfl rfl ((c21 (exPort 5 2) (some ⟨s4,0, none⟩) 3 (by decide) (by decide) hS4.app.cons.app.app.app (zHr _ _) gb).mono (fun v w' h => by rw [ex_e5] at h;  exact h)) ?_
  rintro _ jo ⟨rfl, gc⟩
  refine w_p (zAi (v := .tuple _) rfl rfl) rfl (w_p (zAh (v := .int _ _) rfl rfl rfl) rfl (w_p (zAh (v := .int _ _) rfl rfl rfl) rfl (w_p (zAh (v := .int _ _) rfl rfl rfl) rfl (zBs rfl rfl (zBs rfl rfl (zBs rfl rfl ?_))))))
  refine zAe (zAd (gL _ _ (zAg (fun jp gM => (zAc (w_p (zA9 (vs := [_,_,_,_]) isAgg26 sizeOf26 gc.drop.drop.drop.tail.drop rfl rfl hP1) rfl (zAr zAb call21 rfl rfl rfl rfl ((c21 (exPort 6 3) (some ⟨s1,0, none⟩) 3 (by decide) (by decide) hS1.app.cons.app.app.app (zHr _ _) gc).mono (fun v w' h => by rw [ex_e6] at h;  exact h)) ?_)))))))
  rintro _ jq ⟨rfl, gd⟩
  refine w_p (zAi (v := .tuple _) rfl rfl) rfl (w_p (zAh (v := .int _ _) rfl rfl rfl) rfl (w_p (zAh (v := .int _ _) rfl rfl rfl) rfl (w_p (zAh (v := .int _ _) rfl rfl rfl) rfl (zBs rfl rfl (zBs rfl rfl (zBs rfl rfl ?_))))))
  refine zAe (zAd (gM _ _ (zAg (fun jr gN => (zAc (w_p (zA9 (vs := [_,_,_,_]) isAgg26 sizeOf26 gd.drop.drop.drop.tail.drop rfl rfl hP2) rfl (zAr zAb call22 rfl rfl rfl rfl ((c22 (exPort 5 3) (some ⟨s2,0, none⟩) 3 (by decide) (by decide) hS2.app.cons.app.app.app (zHr _ _) 3 gd).mono (fun v w' h => by rw [ex_t3] at h; rw [ex_t3e] at h;  exact h)) ?_)))))))
  rintro _ js ⟨rfl, ge⟩
  refine w_p (zAi (v := .tuple _) rfl rfl) rfl (w_p (zAh (v := .int _ _) rfl rfl rfl) rfl (w_p (zAh (v := .int _ _) rfl rfl rfl) rfl (zBs rfl rfl (zBs rfl rfl (zAe (zAd (gN _ _ (zAg (fun jt gO => (zAc (w_p (zA9 (vs := [_,_,_,_]) isAgg26 sizeOf26 ge.drop.drop.drop.tail.drop rfl rfl hP1) rfl ?_)))))))))))
  refine zAr zAb call20 rfl rfl rfl rfl ((c20 (exPort 6 3) (some ⟨s1,0, none⟩) 3 (by decide) (by decide) hS1.app.cons.app.app.app (zHr _ _) 3 ge).mono (fun v w' h => by rw [ex_h63] at h; rw [ex_h63e] at h;  exact h)) ?_
  rintro _ ju ⟨rfl, gP⟩
  refine w_p (zAi (v := .tuple _) rfl rfl) rfl (w_p (zAh (v := .int _ _) rfl rfl rfl) rfl (w_p (zAh (v := .int _ _) rfl rfl rfl) rfl (zBs rfl rfl (zBs rfl rfl (zAe (zAd (gO _ _ (zAg (fun jv gQ => (zAc (zBe rfl rfl ?_)))))))))))
  refine w_p (zB3 rfl rfl rfl rfl) rfl (w_p (zAi (v := .bool _) rfl rfl) rfl (w_y rfl rfl rfl (zA6 rfl rfl) rfl (w_y rfl rfl rfl (zB3 rfl rfl rfl rfl) rfl (w_p (zAv (v := .bool _) rfl rfl rfl rfl) rfl (w_p (zAi (v := .bool _) rfl rfl) rfl ?_)))))
  refine w_y rfl rfl rfl (zA6 rfl rfl) rfl ?_
  refine w_y rfl rfl rfl (zB3 rfl rfl rfl rfl) rfl ?_
  refine w_p (zAv (v := .bool _) rfl rfl rfl rfl) rfl (w_p (zAi (v := .bool _) rfl rfl) rfl (w_y rfl rfl rfl (zA6 rfl rfl) rfl (w_y rfl rfl rfl (zB3 rfl rfl rfl rfl) rfl (w_p (zAv (v := .bool _) rfl rfl rfl rfl) rfl ?_))))
  refine w_p (zAi (v := .bool _) rfl rfl) rfl (w_y rfl rfl rfl (zA6 rfl rfl) rfl (w_y rfl rfl rfl (zB3 rfl rfl rfl rfl) rfl (w_p (zAv (v := .bool _) rfl rfl rfl rfl) rfl (w_p (zAi (v := .bool _) rfl rfl) rfl ?_))))
  refine w_y rfl rfl rfl (zA6 rfl rfl) rfl ?_
  refine w_y rfl rfl rfl (zB3 rfl rfl rfl rfl) rfl ?_
  refine w_p (zAv (v := .bool _) rfl rfl rfl rfl) rfl (w_p (zAi (v := .bool _) rfl rfl) rfl (w_y rfl rfl rfl (zA6 rfl rfl) rfl (w_y rfl rfl rfl (zB3 rfl rfl rfl rfl) rfl (w_p (zAv (v := .bool _) rfl rfl rfl rfl) rfl ?_))))
  refine w_p (zAi (v := .bool _) rfl rfl) rfl (w_y rfl rfl rfl (zA6 rfl rfl) rfl (w_y rfl rfl rfl (zB3 rfl rfl rfl rfl) rfl (w_p (zAv (v := .bool _) rfl rfl rfl rfl) rfl (w_p (zAi (v := .bool _) rfl rfl) rfl ?_))))
  refine w_y rfl rfl rfl (zA6 rfl rfl) rfl ?_
  refine w_y rfl rfl rfl (zB3 rfl rfl rfl rfl) rfl ?_
  refine w_p (zAv (v := .bool _) rfl rfl rfl rfl) rfl (w_p (zAi (v := .bool _) rfl rfl) rfl (w_y rfl rfl rfl (zA6 rfl rfl) rfl (w_y rfl rfl rfl (zB3 rfl rfl rfl rfl) rfl (w_p (zAv (v := .bool _) rfl rfl rfl rfl) rfl ?_))))
  refine w_p (zAi (v := .bool _) rfl rfl) rfl (w_y rfl rfl rfl (zA6 rfl rfl) rfl (w_y rfl rfl rfl (zB3 rfl rfl rfl rfl) rfl (w_p (zAv (v := .bool _) rfl rfl rfl rfl) rfl (w_p (zAi (v := .bool _) rfl rfl) rfl ?_))))
  refine w_y rfl rfl rfl (zA6 rfl rfl) rfl ?_
  refine w_y rfl rfl rfl (zB3 rfl rfl rfl rfl) rfl ?_
  refine w_p (zAv (v := .bool _) rfl rfl rfl rfl) rfl (w_p (zAi (v := .bool _) rfl rfl) rfl (w_y rfl rfl rfl (zA6 rfl rfl) rfl (w_y rfl rfl rfl (zB3 rfl rfl rfl rfl) rfl (w_p (zAv (v := .bool _) rfl rfl rfl rfl) rfl ?_))))
  refine w_p (zAi (v := .bool _) rfl rfl) rfl (w_y rfl rfl rfl (zAi (v := .slice _ _ _) rfl rfl) rfl (zAr (zAp rfl rfl rfl) call24 rfl rfl rfl rfl (c24 _ _ gP) ?_))
  rintro _ jw ⟨rfl, gR⟩
  refine zAr (zAp rfl rfl rfl) call24 rfl rfl rfl rfl (c24 _ _ gR) ?_
  rintro _ jx ⟨rfl, gS⟩
  refine zAr (zAp rfl rfl rfl) call24 rfl rfl rfl rfl (c24 _ _ gS) ?_
  rintro _ jy ⟨rfl, gT⟩
  refine zAr (zAp rfl rfl rfl) call24 rfl rfl rfl rfl (c24 _ _ gT) ?_
  rintro _ jz ⟨rfl, gU⟩
  refine zA3 (ps := [(0, _),(1, _),(2, _),(3, _)]) (pv := [(0, .agg #[.int _ _, .int _ _]),(1, .agg #[.int _ _, .int _ _]),(2, .agg #[.int _ _, .int _ _]),(3, .agg #[.int _ _, .int _ _])]) (cs := [_,_,_,_,_,_,_,_]) (zAp rfl rfl rfl) rfl rfl (fun w => Try_CS_fb9 _ _ _ _ _ _ _ _ w) gU (fun jA jB gV => ?_)
  refine zAr (zAp rfl rfl rfl) call23 rfl rfl rfl rfl (zEl (c23 _ _ [[20,25], [50,55], [50,55], [50,55]] [[20,25], [50,55], [50,55], [50,55]] _ _ (by decide) (by decide) hq1.cons.app.app.app.cons (zBd (i := 0) (rows := [[_,_], [_,_], [_,_], [_,_]]) rfl (by simp) rfl) gV) (by decide)) ?_
  rintro _ jC ⟨rfl, gW⟩
  refine w_p (zAv (v := .bool _) rfl rfl rfl rfl) rfl (w_p (zAi (v := .bool _) rfl rfl) rfl (w_y rfl rfl rfl (zA6 rfl rfl) rfl (w_y rfl rfl rfl (zB3 rfl rfl rfl rfl) rfl (w_p (zAv (v := .bool _) rfl rfl rfl rfl) rfl ?_))))
  refine w_p (zAi (v := .bool _) rfl rfl) rfl (w_y rfl rfl rfl (zA6 rfl rfl) rfl (w_y rfl rfl rfl (zB3 rfl rfl rfl rfl) rfl (w_p (zAv (v := .bool _) rfl rfl rfl rfl) rfl (w_p (zAi (v := .bool _) rfl rfl) rfl ?_))))
  refine w_y rfl rfl rfl (zA6 rfl rfl) rfl ?_
  refine w_y rfl rfl rfl (zB3 rfl rfl rfl rfl) rfl ?_
  refine w_p (zAv (v := .bool _) rfl rfl rfl rfl) rfl (w_p (zAi (v := .bool _) rfl rfl) rfl (w_y rfl rfl rfl (zA6 rfl rfl) rfl (w_y rfl rfl rfl (zB3 rfl rfl rfl rfl) rfl (w_p (zAv (v := .bool _) rfl rfl rfl rfl) rfl ?_))))
  refine w_p (zAi (v := .bool _) rfl rfl) rfl (w_y rfl rfl rfl (zAi (v := .slice _ _ _) rfl rfl) rfl (w_y rfl rfl rfl (zAi (v := .slice _ _ _) rfl rfl) rfl (zAr (zAp rfl rfl rfl) call10 rfl rfl rfl rfl (zEl (c10 _ _ [2,3, -1] [2,3, -1] _ _ (by decide) hq2.app.app.cons hl5.app.cons.app.app.app.cons gW) (by decide)) ?_)))
  rintro _ jD ⟨rfl, gX⟩
  refine w_p (zAv (v := .bool _) rfl rfl rfl rfl) rfl (w_p (zAi (v := .bool _) rfl rfl) rfl (w_y rfl rfl rfl (zA6 rfl rfl) rfl (w_y rfl rfl rfl (zB3 rfl rfl rfl rfl) rfl (w_p (zAv (v := .bool _) rfl rfl rfl rfl) rfl ?_))))
  refine w_p (zAi (v := .bool _) rfl rfl) rfl (w_y rfl rfl rfl (zAi (v := .slice _ _ _) rfl rfl) rfl (zA3 (ps := [(0, _),(1, _),(2, _)]) (pv := [(0, .int _ _),(1, .int _ _),(2, .int _ _)]) (cs := [_,_,_]) (zAp rfl rfl rfl) rfl rfl (fun w => zH0 _ _ _ w) gX (fun jE jF gY => ?_)))
  refine zAr (zAp rfl rfl rfl) call10 rfl rfl rfl rfl (zEl (c10 _ _ [2,0,3] [2,0,3] _ _ (by decide) hq3.app.cons.cons (zBd (i := 0) (rows := [[_], [_], [_]]) rfl (by simp) rfl) gY) (by decide)) ?_
  rintro _ jG ⟨rfl, gZ⟩
  refine w_p (zAv (v := .bool _) rfl rfl rfl rfl) rfl (w_p (zAi (v := .bool _) rfl rfl) rfl (w_y rfl rfl rfl (zA6 rfl rfl) rfl (w_y rfl rfl rfl (zB3 rfl rfl rfl rfl) rfl (w_p (zAv (v := .bool _) rfl rfl rfl rfl) rfl ?_))))
  refine w_p (zAi (v := .bool _) rfl rfl) rfl (w_y rfl rfl rfl (zA6 rfl rfl) rfl (w_y rfl rfl rfl (zB3 rfl rfl rfl rfl) rfl (w_p (zAv (v := .bool _) rfl rfl rfl rfl) rfl (w_p (zAi (v := .bool _) rfl rfl) rfl ?_))))
  refine w_y rfl rfl rfl (zA6 rfl rfl) rfl ?_
  refine w_y rfl rfl rfl (zB3 rfl rfl rfl rfl) rfl ?_
  refine w_p (zAv (v := .bool _) rfl rfl rfl rfl) rfl (w_p (zAi (v := .bool _) rfl rfl) rfl (w_y rfl rfl rfl (zA6 rfl rfl) rfl (w_y rfl rfl rfl (zB3 rfl rfl rfl rfl) rfl (w_p (zAv (v := .bool _) rfl rfl rfl rfl) rfl ?_))))
  refine w_p (zAi (v := .bool _) rfl rfl) rfl (w_y rfl rfl rfl (zA6 rfl rfl) rfl (w_y rfl rfl rfl (zB3 rfl rfl rfl rfl) rfl (w_p (zAv (v := .bool _) rfl rfl rfl rfl) rfl (w_p (zAo (v := .bool _) rfl rfl) rfl ?_))))
  refine zAe (zAd (gQ _ _ (zA7 (zBa (l := [.tmp 0]) (vs := [_]) rfl ⟨⟨rfl, (rfl : _ = Value.bool _)⟩, trivial⟩ ?_))))
  exact ⟨rfl, (St.cast hZ gZ.tail.tail.drop.drop.drop.tail.drop).tail.tail.tail.tail.tail.tail.tail.tail.tail⟩

end Go.Proofs.Cb
set_option maxRecDepth 20000
namespace Go.Proofs.Cb
open Go.Proofs.Tryz
open Go.Rt Go.Rt.Ca
attribute [local irreducible] WL WC Con Yd At Ats Sl Agree DW
theorem c9b {w0 w : World} {F : List (Nat × Obj)} (p : Port) (a : Option Addr) (c : Nat) (hl3 : p.farms.length ≤ 9223372036854775807) (hc : p.farms.length ≤ c) (ha : Sl w0 F a 6 (rows p.farms)) (hnm : ∀ f ∈ p.farms, f.name.size ≤ 9223372036854775807) (al : Option Addr) (cl : Nat) (l : List Int) (hll : l.length ≤ 9223372036854775807) (hl : Sl w0 F al 1 (l.map fun x => [Value.int .i64 x])) (hs : St w0 w F) :
  Con Tryz.prog 9 [.agg (p.cells a c).toArray, .slice al l.length cl] w fun v w' => ∃ B aq cq, v = .tuple #[.slice aq (quayR p l).length cq, .int .i64 (enterErr p l)] ∧ Sl w0 B aq 2 (sprow (quayR p l)) ∧ St w0 w' (B ++ F) := by
  refine zAu (n := 38) func9 rfl rfl (zNl rfl) ?_
  refine zAg (fun K2 gc => (zAc (zCj (v := .agg #[.int _ _, .int _ _, .int _ _, .slice _ _ _]) (cs := [_,_,_,_]) zAb rfl rfl rfl hs (fun b3 w4 g8 => ?_))))
  refine zBj rfl rfl (zBj rfl rfl (zAe (zAd (gc _ _ (zAg (fun K7 g9 => (zAc (w_p (zA9 (vs := [_,_,_,_]) isAgg26 sizeOf26 g8 rfl rfl (zAl (i := 0) (vs := [_,_,_,_]) rfl rfl)) rfl ?_))))))))
  refine w_p (zAi (v := .slice _ _ _) rfl rfl) rfl (zAr zAb call36 rfl rfl rfl rfl (c36 p _ _ (by omega) (by omega) ha.cons hnm _ _ _ (by omega) hl.cons g8) ?_)
  rintro _ w9 (⟨hee, rfl, g0⟩ | ⟨hee, m, pb, rfl, g0⟩)
  ·
   refine w_p (zAi (v := .tuple _) rfl rfl) rfl (w_p (zAh (v := .pointer _) rfl rfl rfl) rfl (w_p (zAh (v := (ia _)) rfl rfl rfl) rfl (w_p (zAh (v := .int _ _) rfl rfl rfl) rfl ?_)))
   refine zA0 (cs := iv [0,0,0]) zAb zeroValue85 rfl g0 (fun gy gz gd => ?_)
   refine w_p (zAo (v := .pointer _) rfl rfl) rfl (zB6 (i := 0) (l := _) zAb sizeOf85 (by first | omega | rfl | (simp only [zCh, zL] <;> omega)) rfl rfl rfl rfl rfl gd rfl (by first | omega | rfl | (simp only [zCh, zL] <;> omega)) (fun gA ga => ?_))
   refine zBs rfl rfl (zAe (zAd (g9 _ _ (zAg (fun gB gC => (zAg (fun gD ge => (zAc (zBe rfl rfl (w_p (zCv rfl rfl rfl rfl) rfl (zAe (zAd (ge _ _ (zA1 rfl rfl (fun g3 => ?_) (fun g3 => ?_)))))))))))))))
   ·
    try simp only [zS] at g3
    refine zAg (fun gE gf => (zAc (zBe rfl rfl (zBj rfl rfl (zBs rfl rfl (zAe (zAd (gf _ _ (zA7 (zAm (zBa (l := [.tmp 4, .tmp 5]) (vs := [_,_]) rfl ⟨⟨rfl, show _ = (.slice _ _ _ : Value) from rfl⟩, ⟨rfl, (rfl : _ = Value.int _ _)⟩, trivial⟩ ?_)))))))))))
    first
      | contradiction
      | (refine ⟨[], none, 0, ?_, ?_, ga.tail.tail⟩ <;> rw [q_none hee] <;> first | rfl | exact Sl.nil _ _)
      | (obtain ⟨aw, cw, rfl, hsw⟩ := hown.sl (w0 := w0) (rows := qcells (loads p (pad l))) (by intro row hr; obtain ⟨x, _, rfl⟩ := List.mem_map.1 hr; rfl) (by rw [List.length_map]; omega) (by rw [List.take_of_length_le (by omega)]) []
         rw [List.append_nil] at hsw
         rw [hee]
         rw [zH2 hee] at hsw
         rw [show (qcells (loads p (pad l))).length = (quayR p l).length from by rw [zH2 hee, List.length_map]]
         exact ⟨B, aw, cw, rfl, hsw, zHb (St.cast (congrArg (B ++ ·) hz) ga)⟩)
   try simp only [zS] at g3
   all_goals exact absurd (by assumption) hee
  refine w_p (zAi (v := .tuple _) rfl rfl) rfl (w_p (zAh (v := .pointer _) rfl rfl rfl) rfl (w_p (zAh (v := (ia _)) rfl rfl rfl) rfl (w_p (zAh (v := .int _ _) rfl rfl rfl) rfl ?_)))
  refine zA0 (cs := iv [0,0,0]) zAb zeroValue85 rfl g0 (fun gF gG gg => ?_)
  refine w_p (zAo (v := .pointer _) rfl rfl) rfl (zB6 (i := 0) (l := _) zAb sizeOf85 (by first | omega | rfl | (simp only [zCh, zL] <;> omega)) rfl rfl rfl rfl rfl gg rfl (by first | omega | rfl | (simp only [zCh, zL] <;> omega)) (fun gH gb => ?_))
  refine zBs rfl rfl (zAe (zAd (g9 _ _ (zAg (fun gI gh => (zAg (fun gJ gi => (zAc (zBe rfl rfl (w_p (zCv rfl rfl rfl rfl) rfl (zAe (zAd (gi _ _ (zA1 rfl rfl (fun g4 => ?_) (fun g4 => ?_)))))))))))))))
  ·
   try simp only [zS] at g4
   all_goals contradiction
  try simp only [zS] at g4
  refine zAx (zAd (gh _ _ (zAg (fun gK gj => (zAg (fun gL gk => (zAc (w_p (zAi (v := .pointer _) rfl rfl) rfl (w_p (zBz (i := 0) isAgg85 sizeOf85 (by first | omega | rfl | (simp only [zCh, zL] <;> omega)) gb rfl rfl rfl) rfl ?_)))))))))
  refine zAr zAb call37 rfl rfl rfl rfl (zF5 (X := [_]) (M := [_]) p _ c m pb (zAl (i := 0) (vs := [_,_,_,_,_]) rfl rfl) ha.cons.cons (check_ok (zC3 hee).1) (pad l) (zCh l) (pad_in hee) (zEg _ _ _) gb) ?_
  rintro _ gM ⟨Z, M1, al2, cl2, rfl, gN, hz, hsl, gl⟩
  have hlo := zD4 p (pad l)
  have hok := check_ok (zC3 hee).1
  have hcome := hok.come
  refine w_p (zBo underlying88 rfl rfl) rfl (w_p (zAi (v := _) rfl rfl) rfl (zAe (zAd (gk _ _ (zA8 ?_)))))
  refine zCd [4,9,24,25,26,27,28,29,30,31,32,33,34,35,36] [4,24] (fun k vs w => ∃ (i : Nat) (v : Value) (B : List (Nat × Obj)), vs = [v, .int .i64 i] ∧ i ≤ (loads p (pad l)).length ∧ k = (loads p (pad l)).length - i ∧ Rt.Own v 23 2 i (qcells ((loads p (pad l)).take i)).flatten B ∧ St w0 w (B ++ Z)) ((loads p (pad l)).length) ?_ ?_
  ·
   exact ⟨0, _, [], rfl, by omega, by omega, zE1 23 2, gl⟩
  intro k vs μ gO hI gP gm
  obtain ⟨i, v, B, rfl, hia, rfl, hown, hs⟩ := hI
  refine zAg (fun gQ gn => (zAc (w_p (zCl rfl rfl rfl rfl) rfl (zAe (zAd (gn _ _ (zAg (fun gR go => (zA1 rfl rfl (fun g5 => ?_) (fun g5 => ?_))))))))))
  ·
   try simp only [zS] at g5
   refine zAx (zAd (go _ _ (zAg (fun gS gp => (zA8 ?_)))))
   refine zAg (fun gT gq => ?_)
   have hx2 : i < (loads p (pad l)).length := by omega
   obtain ⟨bx, ox, rfl, hx⟩ := sl_load hsl hx2
   refine zAc (w_p (zBk underlying88 sizeOf91 rfl rfl rfl rfl (i := _) rfl (by omega)) rfl (w_p (zA9 (vs := [_,_,_]) isAgg91 sizeOf91 hs.drop rfl rfl hx) rfl (zA0 (cs := [_,_,_]) zAb zeroValue91 rfl hs (fun gU gV gr => ?_))))
   refine zAs (i := 0) (v := .agg #[.int _ _, .int _ _, .int _ _]) (vs := [_,_,_]) zAb sizeOf91 rfl rfl rfl rfl rfl (by simp [Value.oneCell']) gr rfl (zNl rfl) (fun gW g6 => ?_)
   refine zAe (zAd (gq _ _ (zAc (w_p (zAi (v := v) rfl rfl) rfl (w_p (zAf (o := 0) (i := 0) underlying91 rfl sizeOf3 rfl rfl rfl) rfl (w_p (zAk isAgg3 g6 rfl rfl (zAl (i := 0) (vs := [_]) rfl rfl)) rfl ?_))))))
   refine w_p (zAf (o := 1) (i := 1) underlying91 rfl sizeOf3 rfl rfl rfl) rfl (w_p (zAk isAgg3 g6 rfl rfl (zAl (i := 0) (vs := [_]) rfl rfl)) rfl (w_p (zBx (ps := [(0, _),(1, _)]) (pv := [(0, .int _ _),(1, .int _ _)]) rfl rfl (fun w => Try_CJ_fb5 _ _ w)) rfl ?_))
   refine zA3 (ps := [(0, _)]) (pv := [(0, .agg #[.int _ _, .int _ _])]) (cs := [_,_]) zAb rfl rfl (fun w => Try_CJ_fb6 _ _ w) g6 (fun gX gY gt => ?_)
   refine zEf (X := (_ :: _ :: [])) (B := B) (rows := [[_,_]]) (sz := 2) (bytes := 16) zAb underlying36 Try_info23 rfl rfl rfl rfl rfl rfl rfl rfl rfl gt hown (zBd (i := 0) rfl (by simp) rfl) rfl (by simp) (by simp [Value.oneCell']) (by simp only [maxLen]; omega) (by omega) (fun gu gZ gv gw g7 => ?_)
   replace g7 := (show St _ _ (_ :: _ :: gv ++ (Z)) from g7)
   refine w_p (zAo (v := gu) rfl rfl) rfl (zAe (zAn (zAd (gp _ _ (zAc (w_p (zBq rfl rfl rfl rfl (by omega) (by omega)) rfl (zBe rfl rfl (zAe (zAd (gm _ _ (nxI ((loads p (pad l)).length - (i + 1)) (by omega) ?_)))))))))))
   exact ⟨i + 1, _,_, rfl, by omega, rfl, by rw [← qcells_succ hx2]; exact gw, g7.tail.tail⟩
  try simp only [zS] at g5
  refine zBy (zAq (zAq (zBc (zAd (gj _ _ (zAg (fun hD gx => (zAc (w_p (zAi (v := v) rfl rfl) rfl (w_p (zAo (v := v) rfl rfl) rfl ?_))))))))))
  refine zBj rfl rfl (zAe (zAd (gx _ _ (zA7 (zBa (l := [.tmp 4, .tmp 5]) (vs := [_,_]) rfl ⟨⟨rfl, show _ = (v : Value) from rfl⟩, ⟨rfl, (rfl : _ = Value.int _ _)⟩, trivial⟩ ?_)))))
  first
    | contradiction
    | (refine ⟨[], none, 0, ?_, ?_, hs.drop⟩ <;> rw [q_none hee] <;> first | rfl | exact Sl.nil _ _)
    | (obtain ⟨aw, cw, rfl, hsw⟩ := hown.sl (w0 := w0) (rows := qcells (loads p (pad l))) (by intro row hr; obtain ⟨x, _, rfl⟩ := List.mem_map.1 hr; rfl) (by rw [List.length_map]; omega) (by rw [List.take_of_length_le (by omega)]) []
       rw [List.append_nil] at hsw
       rw [hee]
       rw [zH2 hee] at hsw
       rw [show (qcells (loads p (pad l))).length = (quayR p l).length from by rw [zH2 hee, List.length_map]]
       exact ⟨B, aw, cw, rfl, hsw, zHb (St.cast (congrArg (B ++ ·) hz) hs)⟩)

end Go.Proofs.Cb
/- Plain facts of TopFresh: a port of one farm on one day; a farm that is fresh, hour by hour. No program in sight. No conditions. -/
namespace Go.Rt.Tf
open Go.Rt Go.Rt.Tu
def oneP (d : Int) (f : Ca.Farm) : Ca.Port := ⟨1, d, d, [f]⟩
theorem fErr_any {b : List ByteArray} {f : Ca.Farm} (h : Ca.fErr b f = 0) : Ca.fErr [] f = 0 := by
  unfold Ca.fErr at h ⊢
  cases h1 : nmOk f.name with
  | false => rw [h1, if_neg (by simp)] at h; cases h
  | true =>
    rw [h1, if_pos rfl] at h
    rw [if_pos rfl, if_neg (by simp [has])]
    cases h2 : has b f.name with
    | true => rw [h2, if_pos rfl] at h; cases h
    | false => rwa [h2, if_neg (by simp)] at h
theorem farms_fine : ∀ (l : List Ca.Farm) (b : List ByteArray) (i : Int), (Ca.farmsErr b i l).2.2 = 0 → ∀ f ∈ l, Ca.fErr [] f = 0
  | [], _,_,_, f, hf => by cases hf
  | g :: l, b, i, h, f, hf => by
    rw [Ca.farmsErr] at h
    by_cases h1 : Ca.fErr b g = 0
    · rw [if_pos h1] at h
      cases hf with
      | head => exact fErr_any h1
      | tail _ hf => exact farms_fine l _ _ h f hf
    · rw [if_neg h1] at h; exact absurd h h1
theorem farm_fine {p : Ca.Port} (h : (Ca.check p).2.2 = 0) {f : Ca.Farm} (hf : f ∈ p.farms) : Ca.fErr [] f = 0 := by
  unfold Ca.check at h
  split at h
  · cases h
  · split at h
    · cases h
    · split at h
      · cases h
      · exact farms_fine _ _ _ h f hf
theorem one_check {f : Ca.Farm} (hf : Ca.fErr [] f = 0) {d : Int} (hd : 0 ≤ d ∧ d ≤ 10) : (Ca.check (oneP d f)).2.2 = 0 := by
  unfold Ca.check oneP
  have h1 : out 1 200 1 = false := by decide
  have h2 : out 0 10 d = false := by unfold out; rw [Bool.or_eq_false_iff, decide_eq_false_iff_not, decide_eq_false_iff_not]; omega
  dsimp only
  rw [h1, h2, if_neg (by simp), if_neg (by omega), if_neg (by simp), Ca.farmsErr, if_pos hf]
  rfl
theorem one_enter {f : Ca.Farm} (hf : Ca.fErr [] f = 0) {d s : Int} (hd : 0 ≤ d ∧ d ≤ 10) (hs : 0 ≤ s ∧ s ≤ 10) : Ca.enterErr (oneP d f) [s] = 0 := by
  have h2 : out (-1) 10 s = false := by unfold out; rw [Bool.or_eq_false_iff, decide_eq_false_iff_not, decide_eq_false_iff_not]; omega
  unfold Ca.enterErr
  rw [if_neg (by simp [one_check hf hd]), if_neg (by simp [oneP]), if_neg (by simp [h2])]
theorem on_one {f : Ca.Farm} {d s : Int} (hs : 0 ≤ s) : (Ca.on [f] [s] d).most = if Ca.fresh f s d then f.hi else 0 := by
  show (Ca.step d ⟨0,0,0⟩ (f, s)).most = _
  cases h : Ca.fresh f s d with
  | true => rw [Ca.step_fresh (by omega) h, if_pos rfl]; simp
  | false => rw [Ca.step_vain (by omega) h, if_neg (by simp)]
theorem one_len {f : Ca.Farm} (hf : Ca.fErr [] f = 0) {d s : Int} (hd : 0 ≤ d ∧ d ≤ 10) (hs : 0 ≤ s ∧ s ≤ 10) : (Ca.quayR (oneP d f) [s]).length = 1 := by
  have h := Ca.quay_len (p := oneP d f) (one_enter hf hd hs) (Int.le_refl d)
  have e : (oneP d f).chi - (oneP d f).clo = 0 := Int.sub_self d
  omega
theorem one_get {f : Ca.Farm} (hf : Ca.fErr [] f = 0) {d s : Int} (hd : 0 ≤ d ∧ d ≤ 10) (hs : 0 ≤ s ∧ s ≤ 10) (h0 : 0 < (Ca.quayR (oneP d f) [s]).length) : (Ca.quayR (oneP d f) [s])[0] = [(Ca.on [f] [s] d).least, if Ca.fresh f s d then f.hi else 0] := by
  rw [Ca.quay_get (one_enter hf hd hs) h0, ← on_one hs.1]
  have e : (oneP d f).clo + ((0 : Nat) : Int) = d := Int.add_zero d
  rw [e]; rfl
theorem fresh_iff {f : Ca.Farm} {s d : Int} : Ca.fresh f s d = true ↔ 0 ≤ s ∧ f.way ≤ d - s - f.notice ∧ d - s - f.notice ≤ f.keep := by
  unfold Ca.fresh out
  simp only [Bool.and_eq_true, decide_eq_true_eq, Bool.not_eq_true', Bool.or_eq_false_iff, decide_eq_false_iff_not]
  omega
theorem fresh_hour {f : Ca.Farm} {s d : Int} {u h : Nat} (h1 : Ca.fresh f s d = true) (hu : s + f.notice + f.keep - d = (u : Int)) : Ca.fresh f s (d + (h : Int)) = decide (h ≤ u) := by
  have h2 := fresh_iff.1 h1
  rw [Bool.eq_iff_iff, fresh_iff, decide_eq_true_eq]
  omega
theorem most_pos {f : Ca.Farm} {s d : Int} {u h : Nat} (h1 : Ca.fresh f s d = true) (hu : s + f.notice + f.keep - d = (u : Int)) (hh : 0 < f.hi) : decide (0 < (if Ca.fresh f s (d + (h : Int)) then f.hi else 0)) = decide (h ≤ u) := by
  rw [fresh_hour h1 hu]
  by_cases e : h ≤ u
  · rw [if_pos (by simp [e]), decide_eq_true hh, decide_eq_true e]
  · rw [if_neg (by simp [e]), decide_eq_false (by omega), decide_eq_false e]
theorem turns_e {u : Nat} (hu : u < 41) : (turnsP (one u) 0).2.2 = 0 := by rw [one_turns u hu]; split <;> rfl
theorem turns_far {u : Nat} (hu : u < 41) (h : 8 < u) : (turnsP (one u) 0).2.1 = 2 := by rw [one_turns u hu, if_pos h]
theorem turns_near {u : Nat} (hu : u < 41) (h : ¬ 8 < u) : (turnsP (one u) 0).2.1 = 1 ∧ (turnsP (one u) 0).1.1 = u ∧ (turnsP (one u) 0).1.2 = u := by rw [one_turns u hu, if_neg h]; exact ⟨rfl, rfl, rfl⟩
theorem safe_is {u h : Nat} (hu : u < 41) (hh : h < 9) : (safeP (one u) h).2 = 0 ∧ (safeP (one u) h).1.length ≤ 1 ∧ decide ((safeP (one u) h).1 = [0]) = decide (h < u) := by
  rw [one_safe u hu h hh]
  by_cases e : h < u
  · rw [if_pos e, decide_eq_true e]; exact ⟨rfl, by simp, by decide⟩
  · rw [if_neg e, decide_eq_false e]; exact ⟨rfl, by simp, by decide⟩
end Go.Rt.Tf
set_option maxRecDepth 20000
namespace Go.Proofs.Tf
open Go.Proofs.Tryz
open Go.Rt
attribute [local irreducible] WL WC Con Yd At Ats Sl Agree DW
theorem zEb : Tryz.prog.info? 3 = some Tryz.t3 := by kernel_rfl
theorem zFc (x0 : Int) (x1 : Int) (w : World) : (Instr.build 23 [(0, .int .i64 x0),(1, .int .i64 x1)].toArray).run Tryz.prog w = .ok (.agg #[.int .i64 x0, .int .i64 x1]) w := by kernel_rfl
theorem Try_TA_fb2 (x0 : Int) (x1 : Int) (w : World) : (Instr.buildSlice 36 1 [(0, .agg #[.int .i64 x0, .int .i64 x1])].toArray).run Tryz.prog w = .ok (.slice (some ⟨w.heap.size, 0, none⟩) 1 1) (w.alloc (Go.Rt.blk 23 [.int .i64 x0, .int .i64 x1])) := by kernel_rfl
theorem Try_TA_fb3 (x0 : Int) (x1 : Int) (w : World) : (Instr.build 38 [(2, .agg #[.int .i64 x0, .int .i64 x1])].toArray).run Tryz.prog w = .ok (.agg #[.int .i64 0, .int .i64 0, .int .i64 x0, .int .i64 x1]) w := by kernel_rfl
theorem Try_TA_fb4 (x0 : Int) (x1 : Int) (x2 : Int) (x3 : Int) (w : World) : (Instr.buildSlice 39 1 [(0, .agg #[.int .i64 x0, .int .i64 x1, .int .i64 x2, .int .i64 x3])].toArray).run Tryz.prog w = .ok (.slice (some ⟨w.heap.size, 0, none⟩) 1 1) (w.alloc (Go.Rt.blk 38 [.int .i64 x0, .int .i64 x1, .int .i64 x2, .int .i64 x3])) := by kernel_rfl
theorem Try_TA_fb5 (x0 : Option Addr) (l0 c0 : Nat) (x1 : Option Addr) (l1 c1 : Nat) (x2 : Option Addr) (l2 c2 : Nat) (w : World) : (Instr.build 42 [(0, .slice x0 l0 c0),(2, .slice x1 l1 c1),(3, .slice x2 l2 c2)].toArray).run Tryz.prog w = .ok (.agg #[.slice x0 l0 c0, .int .i64 0, .slice x1 l1 c1, .slice x2 l2 c2, .slice none 0 0]) w := by kernel_rfl
theorem Try_TA_fb6 (x0 : ByteArray) (x1 : Int) (x2 : Int) (x3 : Int) (x4 : Int) (x5 : Int) (w : World) : (Instr.buildSlice 24 1 [(0, .agg #[.string x0, .int .i64 x1, .int .i64 x2, .int .i64 x3, .int .i64 x4, .int .i64 x5])].toArray).run Tryz.prog w = .ok (.slice (some ⟨w.heap.size, 0, none⟩) 1 1) (w.alloc (Go.Rt.blk 33 [.string x0, .int .i64 x1, .int .i64 x2, .int .i64 x3, .int .i64 x4, .int .i64 x5])) := by kernel_rfl
theorem Try_TA_fb7 (x0 : Int) (x1 : Int) (x2 : Int) (x3 : Option Addr) (l3 c3 : Nat) (w : World) : (Instr.build 26 [(0, .int .i64 x0),(1, .agg #[.int .i64 x1, .int .i64 x2]),(2, .slice x3 l3 c3)].toArray).run Tryz.prog w = .ok (.agg #[.int .i64 x0, .int .i64 x1, .int .i64 x2, .slice x3 l3 c3]) w := by kernel_rfl
theorem Try_TA_fb8 (x0 : Int) (w : World) : (Instr.buildSlice 35 1 [(0, .int .i64 x0)].toArray).run Tryz.prog w = .ok (.slice (some ⟨w.heap.size, 0, none⟩) 1 1) (w.alloc (Go.Rt.blk 3 [.int .i64 x0])) := by kernel_rfl
theorem zD2 : flatInts Tryz.prog 23 2 = true := by kernel_rfl
theorem yd_cast {P : Program} {a : Act} {o : Oper} {w : World} {k : IntKind} {z z' : Int} (h : z = z') (hy : Yd P a o w (.int k z)) : Yd P a o w (.int k z') := h ▸ hy
theorem yd_bool {P : Program} {a : Act} {o : Oper} {w : World} {x y : Bool} (h : x = y) (hy : Yd P a o w (.bool x)) : Yd P a o w (.bool y) := h ▸ hy
theorem tin_one {w0 : World} {L : List (Nat × Obj)} {i j k u bh bs bl : Nat} (h1 : L[i]? = some (bh, blk 3 (iv (List.replicate 8 0)))) (h2 : L[j]? = some (bs, blk 23 [.int .i64 1, .int .i64 1])) (h3 : L[k]? = some (bl, blk 38 [.int .i64 0, .int .i64 0, .int .i64 (u : Int), .int .i64 (u : Int)])) :
    Ut.TIn w0 L (Tu.one (u : Int)) ⟨some ⟨bh, 0, none⟩, 8, some ⟨bs, 0, none⟩, 1, some ⟨bl, 0, none⟩, 1, none, 0⟩ where
  e := zBd h1 (by intro row h; obtain ⟨q, _, rfl⟩ := List.mem_map.1 h; rfl) rfl
  h := zBd h2 (by intro row h; obtain ⟨q, _, rfl⟩ := List.mem_map.1 h; rfl) rfl
  l := zBd h3 (by intro row h; obtain ⟨q, _, rfl⟩ := List.mem_map.1 h; rfl) rfl
  n := Sl.nil _ _
  le := by simp [Tu.one]
  lh := by simp [Tu.one]
  ll := by simp [Tu.one]
  ln := by simp [Tu.one]
theorem c3 {w0 w : World} {F : List (Nat × Obj)} (p : Ca.Port) (a : Option Addr) (c : Nat) (hl3 : p.farms.length ≤ 9223372036854775807) (hc : p.farms.length ≤ c) (ha : Sl w0 F a 6 (Ca.rows p.farms)) (hnm : ∀ f ∈ p.farms, f.name.size ≤ 9223372036854775807) (x0 x1 x2 : Int) (hx0 : 0 ≤ x0 ∧ x0 ≤ 255) (hx1 : 0 ≤ x1 ∧ x1 ≤ 255) (hx2 : 0 ≤ x2 ∧ x2 ≤ 255) (hs : St w0 w F) :
  Con Tryz.prog 3 [.agg (p.cells a c).toArray, .agg #[.int .u8 x0, .int .u8 x1, .int .u8 x2]] w fun v w' => v = .bool true ∧ St w0 w' F := by
  refine zAu (n := 195) func3 rfl rfl (zNl rfl) ?_
  refine zAg (fun K2 gW => (zAc (zCj (v := .agg #[.int _ _, .int _ _, .int _ _, .slice _ _ _]) (cs := [_,_,_,_]) zAb rfl rfl rfl hs (fun b3 w4 gX => ?_))))
  refine zCj (v := .agg #[.int _ _, .int _ _, .int _ _]) (cs := [_,_,_]) zAb rfl rfl rfl gX (fun b6 w7 gL => ?_)
  refine zBj rfl rfl (zAe (zAd (gW _ _ (zAg (fun jT gY => (zAc (w_p (zA9 (vs := [_,_,_,_]) isAgg26 sizeOf26 gL rfl rfl (zAl (i := 1) (vs := [_,_,_,_]) rfl rfl)) rfl ?_)))))))
  refine zAr zAb call4 rfl rfl rfl rfl (Cb.c4 p _ _ (by omega) (by omega) ha.cons.cons hnm gL) ?_
  rintro _ jU ⟨rfl, gb⟩
  refine w_p (zAi (v := .tuple _) rfl rfl) rfl (w_p (zAh (v := .int _ _) rfl rfl rfl) rfl (w_p (zAh (v := .int _ _) rfl rfl rfl) rfl (w_p (zAh (v := .int _ _) rfl rfl rfl) rfl (zBs rfl rfl (zBs rfl rfl (zBs rfl rfl ?_))))))
  refine zAe (zAd (gY _ _ (zAg (fun jV gZ => (zAg (fun jW gM => (zAc (zBe rfl rfl (w_p (zCv rfl rfl rfl rfl) rfl (w_p (zAi (v := .bool _) rfl rfl) rfl ?_))))))))))
  refine zBp (fun gp => ?_) (fun gp => ?_)
  ·
   try simp only [zS] at gp
   refine zAj rfl rfl rfl ?_
   refine zAj rfl rfl rfl ?_
   refine zAj rfl rfl rfl ?_
   refine zAj rfl rfl rfl ?_
   refine w_p (zAv (v := _) rfl rfl rfl rfl) rfl (zAe (zAd (gM _ _ (zC0 rfl rfl ?_))))
   refine zAg (fun jX hD => (zAc (zAr zAb call5 rfl rfl rfl rfl (Cb.c5 gb) ?_)))
   rintro _ jY ⟨rfl, hG⟩
   refine w_p (zAi (v := .bool _) rfl rfl) rfl (zAr (zAp rfl rfl rfl) call6 rfl rfl rfl rfl (Ut.c6 hG) ?_)
   rintro _ jZ ⟨rfl, hH⟩
   refine w_p (zAv (v := .bool _) rfl rfl rfl rfl) rfl (w_p (zAo (v := .bool _) rfl rfl) rfl (zAe (zAd (hD _ _ (zA7 (zAm (zBa (l := [.tmp 4]) (vs := [_]) rfl ⟨⟨rfl, (rfl : _ = Value.bool _)⟩, trivial⟩ ?_)))))))
   exact ⟨rfl, hH.tail.tail⟩
  try simp only [zS] at gp
  refine w_y rfl rfl rfl (zAf (o := 3) (i := 2) underlying26 rfl sizeOf24 rfl rfl rfl) rfl ?_
  refine w_y rfl rfl rfl (zAk isAgg24 gb rfl rfl (zAl (i := 1) (vs := [_]) rfl rfl)) rfl ?_
  refine w_y rfl rfl rfl (zBo underlying24 rfl rfl) rfl ?_
  refine w_y rfl rfl rfl (zB3 rfl rfl rfl rfl) rfl ?_
  refine w_p (zBg (v := .bool _) rfl rfl rfl rfl) rfl (zAe (zAd (gM _ _ (zA1 rfl rfl (fun gq => ?_) (fun gq => ?_)))))
  ·
   try simp only [zS] at gq
   refine zAg (fun k4 hN => (zAc (zAr zAb call5 rfl rfl rfl rfl (Cb.c5 gb) ?_)))
   rintro _ k5 ⟨rfl, hO⟩
   refine w_p (zAi (v := .bool _) rfl rfl) rfl (zAr (zAp rfl rfl rfl) call6 rfl rfl rfl rfl (Ut.c6 hO) ?_)
   rintro _ k6 ⟨rfl, hP⟩
   refine w_p (zAv (v := .bool _) rfl rfl rfl rfl) rfl (w_p (zAo (v := .bool _) rfl rfl) rfl (zAe (zAd (hN _ _ (zA7 (zAm (zBa (l := [.tmp 4]) (vs := [_]) rfl ⟨⟨rfl, (rfl : _ = Value.bool _)⟩, trivial⟩ ?_)))))))
   exact ⟨rfl, hP.tail.tail⟩
  try simp only [zS] at gq
  refine zAx (zAd (gZ _ _ (zAg (fun k7 hX => ?_))))
  have hck : (Ca.check p).2.2 = 0 := by assumption
  have hok := Ca.check_ok hck
  have hln := hok.len
  have hn0 : 0 < p.farms.length := by omega
  have hzma := Int.emod_nonneg x0 (show (p.farms.length : Int) ≠ 0 by omega)
  have hzla := Int.emod_lt_of_pos x0 (show 0 < (p.farms.length : Int) by omega)
  obtain ⟨u0, hu0⟩ : ∃ u0 : Nat, x0 % (p.farms.length : Int) = (u0 : Int) := ⟨(x0 % (p.farms.length : Int)).toNat, by omega⟩
  have hu2 : u0 < p.farms.length := by omega
  obtain ⟨bx, ox, hbx, hfx⟩ := Cb.sl_farm ha hu2
  subst hbx
  have hfo := hok.farm _ (List.getElem_mem hu2)
  have hff := Tf.farm_fine hck (List.getElem_mem hu2)
  refine zCe [12] [(0,0),(1,1),(2,0),(3,1),(4,0),(5,0),(6,1),(7,0),(8,0),(9,0),(10,1),(11,2),(12,3)] zB0 (zB5 (by kernel_rfl)) gb (fun k8 g7 => ?_)
  refine d_w rfl (fun _ => zAf (o := 3) (i := 2) underlying26 rfl sizeOf24 rfl rfl rfl) rfl ?_
  refine zBb rfl zAb rfl g7 (fun _ hq => (zAk isAgg24 hq rfl rfl (zAl (i := 1) (vs := [_]) rfl rfl))) ?_
  refine d_w rfl (fun _ => zCb underlying27 sizeOf5 rfl rfl rfl rfl (i := 0) rfl (by omega)) rfl ?_
  refine zBb rfl zAb rfl g7 (fun _ hq => (zAk isAgg5 hq rfl rfl (zAl (i := 0) (vs := [_]) rfl rfl))) ?_
  refine d_w rfl (fun _ => zGi (by rw [underlying5]; rfl) underlying3 rfl rfl (by omega) (by omega)) rfl ?_
  refine d_w rfl (fun _ => zAf (o := 3) (i := 2) underlying26 rfl sizeOf24 rfl rfl rfl) rfl ?_
  refine zBb rfl zAb rfl g7 (fun _ hq => (zAk isAgg24 hq rfl rfl (zAl (i := 1) (vs := [_]) rfl rfl))) ?_
  refine d_w rfl (fun _ => zBo underlying24 rfl rfl) rfl ?_
  refine d_w rfl (fun _ => y_rem rfl rfl rfl rfl (by omega) (by omega)) rfl ?_
  refine d_w rfl (fun _ => zBk underlying24 sizeOf33 rfl rfl rfl rfl (i := u0) (by omega) hu2) rfl ?_
  refine zBb rfl zAb rfl g7 (fun _ hq => (zA9 (vs := [_,_,_,_,_,_]) isAgg33 sizeOf33 hq.tail.tail rfl rfl hfx)) ?_
  refine zBl rfl ?_
  refine zA0 (cs := [_,_,_,_,_,_]) zAb zeroValue33 rfl g7 (fun gN k9 gO => ?_)
  refine zAe (qn ⟨gO.tail, ?_⟩)
  refine zBm rfl ?_
  refine zAs (i := 0) (v := .agg #[.string _, .int _ _, .int _ _, .int _ _, .int _ _, .int _ _]) (vs := [_,_,_,_,_,_]) zAb sizeOf33 rfl rfl rfl rfl rfl (by simp [Value.oneCell']) gO rfl (zNl rfl) (fun ka hY => ?_)
  refine zAe (qn ?_)
  refine zBh ?_
  refine zAd (hX _ _ (zAg (fun kb j0 => ?_)))
  have hzms := Int.emod_nonneg x1 (show (11 : Int) ≠ 0 by omega)
  have hzls := Int.emod_lt_of_pos x1 (show 0 < (11 : Int) by omega)
  have hzmd := Int.emod_nonneg x2 (show (11 : Int) ≠ 0 by omega)
  have hzld := Int.emod_lt_of_pos x2 (show 0 < (11 : Int) by omega)
  refine zCe [] [(0,0),(1,1),(2,0),(3,0),(4,0),(5,1),(6,0),(7,0),(8,0),(9,0)] zB0 (zB5 (by kernel_rfl)) hY (fun kc gc => ?_)
  refine d_w rfl (fun _ => zCb underlying27 sizeOf5 rfl rfl rfl rfl (i := 1) rfl (by omega)) rfl ?_
  refine zBb rfl zAb rfl gc (fun _ hq => (zAk isAgg5 hq rfl rfl (zAl (i := 1) (vs := [_]) rfl rfl))) ?_
  refine d_w rfl (fun _ => zGi (by rw [underlying5]; rfl) underlying3 rfl rfl (by omega) (by omega)) rfl ?_
  refine d_w rfl (fun _ => y_rem rfl rfl rfl rfl (by omega) (by omega)) rfl ?_
  refine d_w rfl (fun _ => zCb underlying27 sizeOf5 rfl rfl rfl rfl (i := 2) rfl (by omega)) rfl ?_
  refine zBb rfl zAb rfl gc (fun _ hq => (zAk isAgg5 hq rfl rfl (zAl (i := 1) (vs := [_]) rfl rfl))) ?_
  refine d_w rfl (fun _ => zGi (by rw [underlying5]; rfl) underlying3 rfl rfl (by omega) (by omega)) rfl ?_
  refine d_w rfl (fun _ => y_rem rfl rfl rfl rfl (by omega) (by omega)) rfl ?_
  refine d_w rfl (fun _ => zA2 rfl rfl) rfl ?_
  refine d_w rfl (fun _ => zA2 rfl rfl) rfl ?_
  refine zBh ?_
  refine zAd (j0 _ _ (zAg (fun kd j1 => (zAg (fun ke gP => (zAc (w_p (zA9 (vs := [_,_,_,_,_,_]) isAgg33 sizeOf33 gc rfl rfl (zAl (i := 0) (vs := [_,_,_,_,_,_]) rfl rfl)) rfl ?_)))))))
  refine zBe rfl rfl (zBe rfl rfl (zAr zAb call7 rfl rfl rfl rfl (Cb.c7 _ _ _ hfo (by omega) (by omega) (by omega) (by omega) gc) ?_))
  rintro _ kf ⟨rfl, g0⟩
  refine w_p (zDq rfl rfl) rfl (w_p (zAi (v := .bool _) rfl rfl) rfl (zBp (fun gr => ?_) (fun gr => ?_)))
  ·
   try simp only [zS] at gr
   refine zAj rfl rfl rfl ?_
   refine zAj rfl rfl rfl ?_
   refine zAj rfl rfl rfl ?_
   refine zAj rfl rfl rfl ?_
   refine w_p (zAv (v := _) rfl rfl rfl rfl) rfl (zAe (zAd (gP _ _ (zC0 rfl rfl ?_))))
   refine zAg (fun kg j2 => (zAc (zAr zAb call5 rfl rfl rfl rfl (Cb.c5 g0) ?_)))
   rintro _ kh ⟨rfl, j3⟩
   refine w_p (zAi (v := .bool _) rfl rfl) rfl (zAr (zAp rfl rfl rfl) call6 rfl rfl rfl rfl (Ut.c6 j3) ?_)
   rintro _ ki ⟨rfl, j4⟩
   refine w_p (zAv (v := .bool _) rfl rfl rfl rfl) rfl (w_p (zAo (v := .bool _) rfl rfl) rfl (zAe (zAd (j2 _ _ (zA7 (zAm (zBa (l := [.tmp 4]) (vs := [_]) rfl ⟨⟨rfl, (rfl : _ = Value.bool _)⟩, trivial⟩ ?_)))))))
   exact ⟨rfl, j4.tail.tail.tail⟩
  try simp only [zS] at gr
  refine w_y rfl rfl rfl (zAf (o := 4) (i := 4) underlying33 rfl sizeOf23 rfl rfl rfl) rfl ?_
  refine w_y rfl rfl rfl (zAf (o := 1) (i := 1) underlying23 rfl sizeOf3 rfl rfl rfl) rfl ?_
  refine w_y rfl rfl rfl (zAk isAgg3 g0 rfl rfl (zAl (i := 0) (vs := [_]) rfl rfl)) rfl ?_
  refine w_y rfl rfl rfl (zB3 rfl rfl rfl rfl) rfl ?_
  refine w_p (zBg (v := .bool _) rfl rfl rfl rfl) rfl (zAe (zAd (gP _ _ (zA1 rfl rfl (fun gt => ?_) (fun gt => ?_)))))
  ·
   try simp only [zS] at gt
   refine zAg (fun kj j5 => (zAc (zAr zAb call5 rfl rfl rfl rfl (Cb.c5 g0) ?_)))
   rintro _ km ⟨rfl, j6⟩
   refine w_p (zAi (v := .bool _) rfl rfl) rfl (zAr (zAp rfl rfl rfl) call6 rfl rfl rfl rfl (Ut.c6 j6) ?_)
   rintro _ kn ⟨rfl, j7⟩
   refine w_p (zAv (v := .bool _) rfl rfl rfl rfl) rfl (w_p (zAo (v := .bool _) rfl rfl) rfl (zAe (zAd (j5 _ _ (zA7 (zAm (zBa (l := [.tmp 4]) (vs := [_]) rfl ⟨⟨rfl, (rfl : _ = Value.bool _)⟩, trivial⟩ ?_)))))))
   exact ⟨rfl, j7.tail.tail.tail⟩
  try simp only [zS] at gt
  refine zAx (zAd (j1 _ _ (zAg (fun ko j8 => ?_))))
  have hfr : Ca.fresh (p.farms[u0]'hu2) (x1 % 11) (x2 % 11) = true := by assumption
  have hfi := Tf.fresh_iff.1 hfr
  have hfb := hfo
  unfold Ca.Farm.Ok at hfb
  have hhi : 0 < (p.farms[u0]'hu2).hi := by omega
  obtain ⟨u, hu⟩ : ∃ u : Nat, (x1 % 11) + (p.farms[u0]'hu2).notice + (p.farms[u0]'hu2).keep - (x2 % 11) = (u : Int) := ⟨((x1 % 11) + (p.farms[u0]'hu2).notice + (p.farms[u0]'hu2).keep - (x2 % 11)).toNat, by omega⟩
  have hu41 : u < 41 := by omega
  refine zAc (zBe rfl rfl (w_p (zAf (o := 2) (i := 2) underlying33 rfl sizeOf3 rfl rfl rfl) rfl (w_p (zAk isAgg3 g0 rfl rfl (zAl (i := 0) (vs := [_]) rfl rfl)) rfl (w_p (zBq rfl rfl rfl rfl (by omega) (by omega)) rfl ?_))))
  refine w_p (zAf (o := 3) (i := 3) underlying33 rfl sizeOf3 rfl rfl rfl) rfl (w_p (zAk isAgg3 g0 rfl rfl (zAl (i := 0) (vs := [_]) rfl rfl)) rfl (w_p (zBq rfl rfl rfl rfl (by omega) (by omega)) rfl ?_))
  refine zBe rfl rfl (w_p (yd_cast (z' := (u : Int)) hu (zHg rfl rfl rfl rfl (by omega) (by omega))) rfl (zBs rfl rfl (zAe (zAd (j8 _ _ (zAg (fun kp j9 => (zAc (w_makeInts (k := 8) zAb underlying35 zEb rfl rfl (by omega) rfl rfl rfl rfl rfl g0 (fun gd kq ja => ?_))))))))))
  refine w_p (zBx (ps := [(0, _),(1, _)]) (pv := [(0, .int _ _),(1, .int _ _)]) rfl rfl (fun w => zFc _ _ w)) rfl (zA3 (ps := [(0, _)]) (pv := [(0, .agg #[.int _ _, .int _ _])]) (cs := [_,_]) zAb rfl rfl (fun w => Try_TA_fb2 _ _ w) ja (fun ge kr jb => ?_))
  refine zBe rfl rfl (zBe rfl rfl (w_p (zBx (ps := [(0, _),(1, _)]) (pv := [(0, .int _ _),(1, .int _ _)]) rfl rfl (fun w => zFc _ _ w)) rfl (w_p (zBx (ps := [(2, _)]) (pv := [(2, .agg #[.int _ _, .int _ _])]) rfl rfl (fun w => Try_TA_fb3 _ _ w)) rfl ?_)))
  refine zA3 (ps := [(0, _)]) (pv := [(0, .agg #[.int _ _, .int _ _, .int _ _, .int _ _])]) (cs := [_,_,_,_]) zAb rfl rfl (fun w => Try_TA_fb4 _ _ _ _ w) jb (fun gf ku jc => ?_)
  refine w_p (zBx (ps := [(0, _),(2, _),(3, _)]) (pv := [(0, .slice _ _ _),(2, .slice _ _ _),(3, .slice _ _ _)]) rfl rfl (fun w => Try_TA_fb5 _ _ _ _ _ _ _ _ _ w)) rfl (zA0 (cs := [_,_,_,_,_]) zAb zeroValue42 rfl jc (fun gQ kw jd => ?_))
  refine zAs (i := 0) (v := .agg #[.slice _ _ _, .int _ _, .slice _ _ _, .slice _ _ _, .slice _ _ _]) (vs := [_,_,_,_,_]) zAb sizeOf42 rfl rfl rfl rfl rfl (by simp [Value.oneCell']) jd rfl (zNl rfl) (fun kx je => ?_)
  refine zAe (zAd (j9 _ _ (zAg (fun ky gR => (zAg (fun kz jf => (zAc (zBj rfl rfl (zAe (zAd (jf _ _ (zA8 ?_))))))))))))
  refine zCd [4,13,14,15,16,17,18,19,20,94,95,96,97,98,99,100,101,102,103,104,105,106,107,108,109,110,111,112,113,114,115,116,117,118,119,120,121,122,123,124,125,126,127,128,129,130,131,132,133,134,135,136,137,138,139,140,141,142,143,144,145,146,147,148,149,150,151,152,153,154,155,156,157,158,159,160,161] [13] (fun k vs w => ∃ h : Nat, vs = [.int .i64 (h : Int)] ∧ h ≤ 9 ∧ k = 9 - h ∧ St w0 w ((gQ, blk 42 [.slice (some ⟨gd,0, none⟩) 8 8, .int .i64 0, .slice (some ⟨ge,0, none⟩) 1 1, .slice (some ⟨gf,0, none⟩) 1 1, .slice none 0 0]) :: (gf, blk 38 [.int .i64 0, .int .i64 0, .int .i64 (u : Int), .int .i64 (u : Int)]) :: (ge, blk 23 [.int .i64 1, .int .i64 1]) :: (gd, blk 3 (iv (List.replicate 8 0))) :: (gN, blk 33 (p.farms[u0]'hu2).cells) :: F)) (9) ?_ ?_
  ·
   have gu := ((je.perm (zAa [_,_,_,_,_] [_] _)).tail.perm (zAa [_,_,_,_,_] [_] _)).tail
   replace gu := (show St _ _ (_ :: _ :: _ :: _ :: _ :: F) from gu)
   exact ⟨0, rfl, by omega, by omega, gu⟩
  intro k vs μ kA hI kB gg
  clear hs
  obtain ⟨h, rfl, hh9, rfl, hs⟩ := hI
  have hT := tin_one (w0 := w0) (L := (gQ, blk 42 [.slice (some ⟨gd,0, none⟩) 8 8, .int .i64 0, .slice (some ⟨ge,0, none⟩) 1 1, .slice (some ⟨gf,0, none⟩) 1 1, .slice none 0 0]) :: (gf, blk 38 [.int .i64 0, .int .i64 0, .int .i64 (u : Int), .int .i64 (u : Int)]) :: (ge, blk 23 [.int .i64 1, .int .i64 1]) :: (gd, blk 3 (iv (List.replicate 8 0))) :: (gN, blk 33 (p.farms[u0]'hu2).cells) :: F) (i := 3) (j := 2) (k := 1) (u := u) rfl rfl rfl
  refine zAg (fun kC jg => (zAg (fun kD gS => (zAc (zBe rfl rfl (w_p (zGf rfl rfl rfl rfl) rfl (w_p (zAi (v := .bool _) rfl rfl) rfl (zBp (fun gv => ?_) (fun gv => ?_)))))))))
  ·
   try simp only [zS] at gv
   refine w_y rfl rfl rfl (zA6 rfl rfl) rfl ?_
   refine w_y rfl rfl rfl (zA6 rfl rfl) rfl ?_
   refine w_y rfl rfl rfl (zBq rfl rfl rfl rfl (by omega) (by omega)) rfl ?_
   refine w_y rfl rfl rfl (zGf rfl rfl rfl rfl) rfl ?_
   refine w_p (zAv (v := .bool _) rfl rfl rfl rfl) rfl (zAe (zAd (gS _ _ (zA1 rfl rfl (fun gw => ?_) (fun gw => ?_)))))
   ·
    try simp only [zS] at gw
    refine zAx (zAd (jg _ _ (zAg (fun kE gh => (zA8 ?_)))))
    refine zAg (fun kF jh => ?_)
    have hh8 : h < 9 := by omega
    have hql := Tf.one_len (f := (p.farms[u0]'hu2)) hff (d := ((x2 % 11) + (h : Int))) (s := (x1 % 11)) (by omega) (by omega)
    refine zAc (w_p (zA9 (vs := [_,_,_,_,_]) isAgg42 sizeOf42 hs rfl rfl (zAl (i := 0) (vs := [_,_,_,_,_]) rfl rfl)) rfl (zBe rfl rfl (zAr zAb call8 rfl rfl rfl rfl ((Ut.c8 (Tu.one (u : Int)) _ hT (h : Int) hs).mono (fun v w2 x => by rw [(Tf.safe_is hu41 hh8).1] at x; exact x)) ?_)))
    rintro _ kG ⟨SB, aS, cS, rfl, hslS, gx⟩
    replace gx := (show St _ _ (SB ++ (_ :: _ :: _ :: _ :: _ :: F)) from gx)
    have gi := (((((gx.perm ((List.Perm.append_left SB (zAa [_,_,_,_] [_] _)).trans (zAa SB [_] _))).perm ((List.Perm.append_left [_] ((List.Perm.append_left SB (zAa [_,_,_] [_] _)).trans (zAa SB [_] _))).trans (zAa [_] [_] _))).perm ((List.Perm.append_left [_,_] ((List.Perm.append_left SB (zAa [_,_] [_] _)).trans (zAa SB [_] _))).trans (zAa [_,_] [_] _))).perm ((List.Perm.append_left [_,_,_] ((List.Perm.append_left SB (zAa [_] [_] _)).trans (zAa SB [_] _))).trans (zAa [_,_,_] [_] _))).perm ((List.Perm.append_left [_,_,_,_] (zAa SB [_] _)).trans (zAa [_,_,_,_] [_] _)))
    replace gi := (show St _ _ (_ :: _ :: _ :: _ :: _ :: SB ++ (F)) from gi)
    refine w_p (zAi (v := .tuple _) rfl rfl) rfl (w_p (zAh (v := .slice _ _ _) rfl rfl rfl) rfl (w_p (zAh (v := .int _ _) rfl rfl rfl) rfl (w_p (zAo (v := .slice _ _ _) rfl rfl) rfl (zBs rfl rfl (zAe (zAd (jh _ _ (zAg (fun kH ji => (zAc (zBe rfl rfl ?_)))))))))))
    refine zBe rfl rfl (w_p (zBq rfl rfl rfl rfl (by omega) (by omega)) rfl (zBe rfl rfl (zBe rfl rfl (w_p (zBq rfl rfl rfl rfl (by omega) (by omega)) rfl (w_p (zBx (ps := [(0, _),(1, _)]) (pv := [(0, .int _ _),(1, .int _ _)]) rfl rfl (fun w => zFc _ _ w)) rfl ?_)))))
    refine w_p (zA9 (vs := [_,_,_,_,_,_]) isAgg33 sizeOf33 gi rfl rfl (zAl (i := 4) (vs := [_,_,_,_,_,_]) rfl rfl)) rfl (zA3 (ps := [(0, _)]) (pv := [(0, .agg #[.string _, .int _ _, .int _ _, .int _ _, .int _ _, .int _ _])]) (cs := [_,_,_,_,_,_]) zAb rfl rfl (fun w => Try_TA_fb6 _ _ _ _ _ _ w) gi (fun jj kI jk => ?_))
    refine w_p (zBx (ps := [(0, _),(1, _),(2, _)]) (pv := [(0, .int _ _),(1, .agg #[.int _ _, .int _ _]),(2, .slice _ _ _)]) rfl rfl (fun w => Try_TA_fb7 _ _ _ _ _ _ w)) rfl (zA0 (cs := [_,_,_,_]) zAb zeroValue26 rfl jk (fun kJ kK jl => ?_))
    refine zAs (i := 0) (v := .agg #[.int _ _, .int _ _, .int _ _, .slice _ _ _]) (vs := [_,_,_,_]) zAb sizeOf26 rfl rfl rfl rfl rfl (by simp [Value.oneCell']) jl rfl (zNl rfl) (fun kL gT => ?_)
    refine zAe (zAd (ji _ _ (zAg (fun kM jm => (zAc (w_p (zA9 (vs := [_,_,_,_]) isAgg26 sizeOf26 gT rfl rfl (zAl (i := 0) (vs := [_,_,_,_]) rfl rfl)) rfl (zBe rfl rfl (zA3 (ps := [(0, _)]) (pv := [(0, .int _ _)]) (cs := [_]) zAb rfl rfl (fun w => Try_TA_fb8 _ w) gT (fun jn kN jo => ?_)))))))))
    refine zAr zAb call9 rfl rfl rfl rfl ((Cb.c9b (Tf.oneP ((x2 % 11) + (h : Int)) (p.farms[u0]'hu2)) (some ⟨jj,0, none⟩) 1 (by simp [Tf.oneP]) (by simp [Tf.oneP]) (zBd (i := 2) (rows := Ca.rows [(p.farms[u0]'hu2)]) rfl (by intro row h; obtain ⟨q, _, rfl⟩ := List.mem_map.1 h; rfl) rfl) (by intro f hf; simp only [Tf.oneP, List.mem_cons, List.not_mem_nil, or_false] at hf; subst hf; exact hnm _ (List.getElem_mem hu2)) (some ⟨jn,0, none⟩) 1 [(x1 % 11)] (by simp) (zBd (i := 0) (rows := [[_]]) rfl (by simp) rfl) jo).mono (fun v w2 x => by rw [Tf.one_enter hff (by omega) (by omega), hql] at x; exact x)) ?_
    rintro _ kO ⟨QB, aQ, cQ, rfl, hslQ, gy⟩
    replace gy := (show St _ _ (QB ++ (_ :: _ :: _ :: _ :: _ :: _ :: _ :: _ :: SB ++ (F))) from gy)
    refine w_p (zAi (v := .tuple _) rfl rfl) rfl (w_p (zAh (v := .slice _ _ _) rfl rfl rfl) rfl (w_p (zAh (v := .int _ _) rfl rfl rfl) rfl (w_p (zAo (v := .slice _ _ _) rfl rfl) rfl (zBs rfl rfl (zAe (zAd (jm _ _ (zAg (fun kP jp => (zAg (fun kQ jq => (zAc (zBe rfl rfl ?_)))))))))))))
    refine w_p (zCv rfl rfl rfl rfl) rfl (w_p (zAi (v := .bool _) rfl rfl) rfl (w_y rfl rfl rfl (zA6 rfl rfl) rfl (w_y rfl rfl rfl (zCv rfl rfl rfl rfl) rfl (w_p (zBg (v := .bool _) rfl rfl rfl rfl) rfl (w_p (zAi (v := .bool _) rfl rfl) rfl ?_)))))
    refine w_y rfl rfl rfl (zAi (v := .slice _ _ _) rfl rfl) rfl ?_
    refine w_y rfl rfl rfl (zBo underlying36 rfl rfl) rfl ?_
    refine w_y rfl rfl rfl (zCv rfl rfl rfl rfl) rfl ?_
    refine w_p (zBg (v := .bool _) rfl rfl rfl rfl) rfl (zAe (zAd (jq _ _ (zA1 rfl rfl (fun gj => ?_) (fun gj => ?_)))))
    ·
     exfalso
     try simp only [zS] at gj
     simp at gj
    try simp only [zS] at gj
    refine zAx (zAd (jp _ _ (zAg (fun kR jr => ?_))))
    obtain ⟨bs, os, hbs, hsp0⟩ := Cb.sl_spans hslQ (i := 0) (by rw [hql]; omega)
    subst hbs
    replace hsp0 := hsp0.2
    rw [Tf.one_get hff (by omega) (by omega)] at hsp0
    have hsp := fun F => Ats.top (F := F) hsp0
    refine zCe [] [(0,0),(3,0),(4,0),(5,0),(6,1),(7,0),(1,2),(2,2),(8,0),(9,0)] zB0 (zB5 (by kernel_rfl)) gy (fun kS gU => ?_)
    refine d_w rfl (fun _ => zAi (v := .slice _ _ _) rfl rfl) rfl ?_
    refine d_w rfl (fun _ => zAi (v := .slice _ _ _) rfl rfl) rfl ?_
    refine d_w rfl (fun _ => zBk underlying36 sizeOf23 rfl rfl rfl rfl (i := 0) rfl (by omega)) rfl ?_
    refine d_w rfl (fun _ => zAf (o := 1) (i := 1) underlying23 rfl sizeOf3 rfl rfl rfl) rfl ?_
    refine zBb rfl zAb rfl gU (fun _ hq => (zAk isAgg3 hq rfl rfl (show Ats _ _ _ _ [_] from Ats.part (hsp _) 1 1))) ?_
    refine d_w rfl (fun _ => yd_bool (Tf.most_pos hfr hu hhi) (zEt rfl rfl rfl rfl)) rfl ?_
    refine zBl rfl ?_
    refine zA3 (ps := [(0, _)]) (pv := [(0, .int _ _)]) (cs := [_]) zAb rfl rfl (fun w => Try_TA_fb8 _ w) gU (fun js kT gV => ?_)
    refine zAe (qn ⟨gV.tail, ?_⟩)
    refine zBl rfl ?_
    refine zAr zAb call10 rfl rfl rfl rfl ((c10 aS (some ⟨js,0, none⟩) (Tu.safeP (Tu.one (u : Int)) (h : Int)).1 [0] cS 1 (by have := (Tf.safe_is hu41 hh8).2.1; omega) ((Sl.top hslS).cons.cons.cons.cons.cons.cons.cons.cons.app.cons) (zBd (i := 0) (rows := [[_]]) rfl (by simp) rfl) gV).mono (fun v w2 x => by rw [(Tf.safe_is hu41 hh8).2.2] at x; exact x)) ?_
    rintro _ kU ⟨rfl, g8⟩
    refine zAe (qn ⟨g8.tail, ?_⟩)
    refine d_w rfl (fun _ => zAo (v := .bool _) rfl rfl) rfl ?_
    refine d_w rfl (fun _ => zAo (v := .bool _) rfl rfl) rfl ?_
    refine zBh ?_
    refine zAd (jr _ _ (zAg (fun kV gk => (zAc (w_p (zAi (v := .bool _) rfl rfl) rfl (w_p (zAi (v := .bool _) rfl rfl) rfl (zBp (fun gz => ?_) (fun gz => ?_))))))))
    ·
     try simp only [zS] at gz
     refine w_y rfl rfl rfl (zAi (v := .bool _) rfl rfl) rfl ?_
     refine w_y rfl rfl rfl (zDq rfl rfl) rfl ?_
     refine w_p (zAv (v := .bool _) rfl rfl rfl rfl) rfl (w_p (zAi (v := .bool _) rfl rfl) rfl (zBp (fun gA => ?_) (fun gA => ?_)))
     ·
      exfalso
      try simp only [zS] at gA
      omega
     try simp only [zS] at gA
     refine w_y rfl rfl rfl (zA6 rfl rfl) rfl ?_
     refine w_y rfl rfl rfl (zA6 rfl rfl) rfl ?_
     refine w_y rfl rfl rfl (zB3 rfl rfl rfl rfl) rfl ?_
     refine w_y rfl rfl rfl (zAi (v := .bool _) rfl rfl) rfl ?_
     refine w_y rfl rfl rfl (zAi (v := .bool _) rfl rfl) rfl ?_
     refine zBp (fun gB => ?_) (fun gB => ?_)
     ·
      try simp only [zS] at gB
      refine w_y rfl rfl rfl (zAi (v := .bool _) rfl rfl) rfl ?_
      refine w_y rfl rfl rfl (zDq rfl rfl) rfl ?_
      refine w_y rfl rfl rfl (zAv (v := .bool _) rfl rfl rfl rfl) rfl ?_
      refine w_y rfl rfl rfl (y_neB underlying4 rfl rfl rfl rfl) rfl ?_
      refine w_p (zBg (v := .bool _) rfl rfl rfl rfl) rfl (zAe (zAd (gk _ _ (zA1 rfl rfl (fun g3 => ?_) (fun g3 => ?_)))))
      ·
       exfalso
       try simp only [zS] at g3
       first | exact g3 (by rw [Bool.eq_iff_iff]; simp; omega) | exact g3 (by simp; omega) | (simp at g3; omega)
      try simp only [zS] at g3
      refine zAx (zAn (zAd (gh _ _ (zAc (zBe rfl rfl (w_p (zBq rfl rfl rfl rfl (by omega) (by omega)) rfl (zBs rfl rfl (zAe (zAd (gg _ _ (nxI (9 - (h + 1)) (by omega) ?_)))))))))))
      have gC := (g8.tail.drop.tail.tail.tail.perm (zAa [_,_,_,_,_] SB _)).drop
      replace gC := (show St _ _ (_ :: _ :: _ :: _ :: _ :: F) from gC)
      exact ⟨h + 1, rfl, by omega, by omega, gC⟩
     try simp only [zS] at gB
     refine zAj rfl rfl rfl ?_
     refine zAj rfl rfl rfl ?_
     refine w_y rfl rfl rfl (zBg (v := _) rfl rfl rfl rfl) rfl ?_
     refine w_y rfl rfl rfl (y_neB underlying4 rfl rfl rfl rfl) rfl ?_
     refine w_p (zBg (v := .bool _) rfl rfl rfl rfl) rfl (zAe (zAd (gk _ _ (zA1 rfl rfl (fun g4 => ?_) (fun g4 => ?_)))))
     ·
      exfalso
      try simp only [zS] at g4
      first | exact g4 (by rw [Bool.eq_iff_iff]; simp; omega) | exact g4 (by simp; omega) | (simp at g4; omega)
     try simp only [zS] at g4
     refine zAx (zAn (zAd (gh _ _ (zAc (zBe rfl rfl (w_p (zBq rfl rfl rfl rfl (by omega) (by omega)) rfl (zBs rfl rfl (zAe (zAd (gg _ _ (nxI (9 - (h + 1)) (by omega) ?_)))))))))))
     have gD := (g8.tail.drop.tail.tail.tail.perm (zAa [_,_,_,_,_] SB _)).drop
     replace gD := (show St _ _ (_ :: _ :: _ :: _ :: _ :: F) from gD)
     exact ⟨h + 1, rfl, by omega, by omega, gD⟩
    try simp only [zS] at gz
    refine zAj rfl rfl rfl ?_
    refine zAj rfl rfl rfl ?_
    refine w_p (zBg (v := _) rfl rfl rfl rfl) rfl (w_p (zAi (v := .bool _) rfl rfl) rfl (w_y rfl rfl rfl (zA6 rfl rfl) rfl (w_y rfl rfl rfl (zA6 rfl rfl) rfl (w_y rfl rfl rfl (zB3 rfl rfl rfl rfl) rfl (w_y rfl rfl rfl (zAi (v := .bool _) rfl rfl) rfl ?_)))))
    refine w_y rfl rfl rfl (zAi (v := .bool _) rfl rfl) rfl ?_
    refine zBp (fun gE => ?_) (fun gE => ?_)
    ·
     try simp only [zS] at gE
     refine w_y rfl rfl rfl (zAi (v := .bool _) rfl rfl) rfl ?_
     refine w_y rfl rfl rfl (zDq rfl rfl) rfl ?_
     refine w_y rfl rfl rfl (zAv (v := .bool _) rfl rfl rfl rfl) rfl ?_
     refine w_y rfl rfl rfl (y_neB underlying4 rfl rfl rfl rfl) rfl ?_
     refine w_p (zBg (v := .bool _) rfl rfl rfl rfl) rfl (zAe (zAd (gk _ _ (zA1 rfl rfl (fun g5 => ?_) (fun g5 => ?_)))))
     ·
      exfalso
      try simp only [zS] at g5
      first | exact g5 (by rw [Bool.eq_iff_iff]; simp; omega) | exact g5 (by simp; omega) | (simp at g5; omega)
     try simp only [zS] at g5
     refine zAx (zAn (zAd (gh _ _ (zAc (zBe rfl rfl (w_p (zBq rfl rfl rfl rfl (by omega) (by omega)) rfl (zBs rfl rfl (zAe (zAd (gg _ _ (nxI (9 - (h + 1)) (by omega) ?_)))))))))))
     have gF := (g8.tail.drop.tail.tail.tail.perm (zAa [_,_,_,_,_] SB _)).drop
     replace gF := (show St _ _ (_ :: _ :: _ :: _ :: _ :: F) from gF)
     exact ⟨h + 1, rfl, by omega, by omega, gF⟩
    try simp only [zS] at gE
    refine zAj rfl rfl rfl ?_
    refine zAj rfl rfl rfl ?_
    refine w_y rfl rfl rfl (zBg (v := _) rfl rfl rfl rfl) rfl ?_
    refine w_y rfl rfl rfl (y_neB underlying4 rfl rfl rfl rfl) rfl ?_
    refine w_p (zBg (v := .bool _) rfl rfl rfl rfl) rfl (zAe (zAd (gk _ _ (zA1 rfl rfl (fun g6 => ?_) (fun g6 => ?_)))))
    ·
     exfalso
     try simp only [zS] at g6
     first | exact g6 (by rw [Bool.eq_iff_iff]; simp; omega) | exact g6 (by simp; omega) | (simp at g6; omega)
    try simp only [zS] at g6
    refine zAx (zAn (zAd (gh _ _ (zAc (zBe rfl rfl (w_p (zBq rfl rfl rfl rfl (by omega) (by omega)) rfl (zBs rfl rfl (zAe (zAd (gg _ _ (nxI (9 - (h + 1)) (by omega) ?_)))))))))))
    have gG := (g8.tail.drop.tail.tail.tail.perm (zAa [_,_,_,_,_] SB _)).drop
    replace gG := (show St _ _ (_ :: _ :: _ :: _ :: _ :: F) from gG)
    exact ⟨h + 1, rfl, by omega, by omega, gG⟩
   try simp only [zS] at gw
   refine zBy (zAq (zAq (zBc (zAd (gR _ _ (zAg (fun kW jt => (zAc (w_p (zA9 (vs := [_,_,_,_,_]) isAgg42 sizeOf42 hs rfl rfl (zAl (i := 0) (vs := [_,_,_,_,_]) rfl rfl)) rfl ?_)))))))))
   refine zAr zAb call11 rfl rfl rfl rfl ((Ut.c11 (Tu.one (u : Int)) _ hT 0 hs).mono (fun v w2 x => by rw [Tf.turns_e hu41] at x; exact x)) ?_
   rintro _ kX ⟨rfl, ju⟩
   refine w_p (zAi (v := .tuple _) rfl rfl) rfl (w_p (zAh (v := .agg _) rfl rfl rfl) rfl (w_p (zAh (v := .int _ _) rfl rfl rfl) rfl (w_p (zAh (v := .int _ _) rfl rfl rfl) rfl (zA0 (cs := [_,_]) zAb zeroValue23 rfl ju (fun kY kZ jv => ?_)))))
   refine zAs (i := 0) (v := .agg #[.int _ _, .int _ _]) (vs := [_,_]) zAb sizeOf23 rfl rfl rfl rfl rfl (by simp [Value.oneCell']) jv rfl (zNl rfl) (fun m0 gH => ?_)
   refine zBs rfl rfl (zBs rfl rfl (zAe (zAd (jt _ _ (zAg (fun m1 jw => (zAg (fun m2 jx => (zAc (zBe rfl rfl (w_p (zCv rfl rfl rfl rfl) rfl ?_)))))))))))
   refine zAe (zAd (jx _ _ (zB7 rfl rfl ?_)))
   refine zAx (zAd (jw _ _ (zAg (fun m3 jy => (zAg (fun m4 jz => (zAc (zBe rfl rfl (w_p (zEt rfl rfl rfl rfl) rfl (zAe (zAd (jz _ _ (zA1 rfl rfl (fun gI => ?_) (fun gI => ?_))))))))))))))
   ·
    try simp only [zS] at gI
    refine zAg (fun m5 jA => (zAc (zBe rfl rfl (w_p (zB3 rfl rfl rfl rfl) rfl (w_p (zAi (v := .bool _) rfl rfl) rfl (zBp (fun gl => ?_) (fun gl => ?_)))))))
    ·
     try simp only [zS] at gl
     refine zAr (zAp rfl rfl rfl) call5 rfl rfl rfl rfl (Cb.c5 gH) ?_
     rintro _ m6 ⟨rfl, jB⟩
     refine w_p (zAv (v := .bool _) rfl rfl rfl rfl) rfl (w_p (zAi (v := .bool _) rfl rfl) rfl (zAr (zAp rfl rfl rfl) call6 rfl rfl rfl rfl (Ut.c6 jB) ?_))
     rintro _ m7 ⟨rfl, jC⟩
     refine w_p (zAv (v := .bool _) rfl rfl rfl rfl) rfl (w_p (zAo (v := .bool _) rfl rfl) rfl (zAe (zAd (jA _ _ (zA7 (zAm (zBa (l := [.tmp 4]) (vs := [_]) rfl ⟨⟨rfl, (rfl : _ = Value.bool _)⟩, trivial⟩ ?_)))))))
     exact ⟨rfl, jC.tail.tail.tail.tail.tail.tail⟩
    exfalso
    try simp only [zS] at gl
    exact gl (Tf.turns_far hu41 (by omega))
   try simp only [zS] at gI
   refine zAx (zAd (jy _ _ (zAg (fun m8 jD => (zAc (zBe rfl rfl (w_p (zB3 rfl rfl rfl rfl) rfl (w_p (zAi (v := .bool _) rfl rfl) rfl (zBp (fun gm => ?_) (fun gm => ?_))))))))))
   ·
    try simp only [zS] at gm
    refine w_y rfl rfl rfl (zA9 (vs := [_,_]) isAgg23 sizeOf23 gH rfl rfl (zAl (i := 0) (vs := [_,_]) rfl rfl)) rfl ?_
    refine w_y rfl rfl rfl (zA6 rfl rfl) rfl ?_
    refine w_y rfl rfl rfl (zA6 rfl rfl) rfl ?_
    refine w_y rfl rfl rfl (zBx (ps := [(0, _),(1, _)]) (pv := [(0, .int _ _),(1, .int _ _)]) rfl rfl (fun w => zFc _ _ w)) rfl ?_
    refine w_y rfl rfl rfl (zFe (l := [_,_]) (m := [_,_]) eqGuardType23 zD2 (by first | omega | rfl | (simp only [zL] <;> omega)) (by first | omega | rfl | (simp only [zL] <;> omega)) rfl rfl rfl rfl rfl rfl) rfl ?_
    refine w_p (zAv (v := .bool _) rfl rfl rfl rfl) rfl (w_p (zAi (v := .bool _) rfl rfl) rfl (zBp (fun g9 => ?_) (fun g9 => ?_)))
    ·
     try simp only [zS] at g9
     refine zAr (zAp rfl rfl rfl) call5 rfl rfl rfl rfl (Cb.c5 gH) ?_
     rintro _ m9 ⟨rfl, jE⟩
     refine w_p (zAv (v := .bool _) rfl rfl rfl rfl) rfl (w_p (zAi (v := .bool _) rfl rfl) rfl (zAr (zAp rfl rfl rfl) call6 rfl rfl rfl rfl (Ut.c6 jE) ?_))
     rintro _ ma ⟨rfl, jF⟩
     refine w_p (zAv (v := .bool _) rfl rfl rfl rfl) rfl (w_p (zAo (v := .bool _) rfl rfl) rfl (zAe (zAd (jD _ _ (zA7 (zBa (l := [.tmp 4]) (vs := [_]) rfl ⟨⟨rfl, (rfl : _ = Value.bool _)⟩, trivial⟩ ?_))))))
     exact ⟨rfl, jF.tail.tail.tail.tail.tail.tail⟩
    exfalso
    try simp only [zS] at g9
    obtain ⟨_, e1, e2⟩ := Tf.turns_near hu41 (show ¬ 8 < u by omega)
    rw [e1, e2] at g9
    exact absurd rfl g9
   exfalso
   try simp only [zS] at gm
   exact gm (Tf.turns_near hu41 (by omega)).1
  try simp only [zS] at gv
  refine zAj rfl rfl rfl ?_
  refine zAj rfl rfl rfl ?_
  refine zAj rfl rfl rfl ?_
  refine zAj rfl rfl rfl ?_
  refine w_p (zBg (v := _) rfl rfl rfl rfl) rfl (zAe (zAd (gS _ _ (zB7 rfl rfl ?_))))
  refine zBy (zAq (zAq (zBc (zAd (gR _ _ (zAg (fun mb jG => (zAc (w_p (zA9 (vs := [_,_,_,_,_]) isAgg42 sizeOf42 hs rfl rfl (zAl (i := 0) (vs := [_,_,_,_,_]) rfl rfl)) rfl ?_)))))))))
  refine zAr zAb call11 rfl rfl rfl rfl ((Ut.c11 (Tu.one (u : Int)) _ hT 0 hs).mono (fun v w2 x => by rw [Tf.turns_e hu41] at x; exact x)) ?_
  rintro _ mc ⟨rfl, jH⟩
  refine w_p (zAi (v := .tuple _) rfl rfl) rfl (w_p (zAh (v := .agg _) rfl rfl rfl) rfl (w_p (zAh (v := .int _ _) rfl rfl rfl) rfl (w_p (zAh (v := .int _ _) rfl rfl rfl) rfl (zA0 (cs := [_,_]) zAb zeroValue23 rfl jH (fun md me jI => ?_)))))
  refine zAs (i := 0) (v := .agg #[.int _ _, .int _ _]) (vs := [_,_]) zAb sizeOf23 rfl rfl rfl rfl rfl (by simp [Value.oneCell']) jI rfl (zNl rfl) (fun mf gJ => ?_)
  refine zBs rfl rfl (zBs rfl rfl (zAe (zAd (jG _ _ (zAg (fun mg jJ => (zAg (fun mh jK => (zAc (zBe rfl rfl (w_p (zCv rfl rfl rfl rfl) rfl ?_)))))))))))
  refine zAe (zAd (jK _ _ (zB7 rfl rfl ?_)))
  refine zAx (zAd (jJ _ _ (zAg (fun mi jL => (zAg (fun mj jM => (zAc (zBe rfl rfl (w_p (zEt rfl rfl rfl rfl) rfl (zAe (zAd (jM _ _ (zA1 rfl rfl (fun gK => ?_) (fun gK => ?_))))))))))))))
  ·
   try simp only [zS] at gK
   refine zAg (fun ml jN => (zAc (zBe rfl rfl (w_p (zB3 rfl rfl rfl rfl) rfl (w_p (zAi (v := .bool _) rfl rfl) rfl (zBp (fun gn => ?_) (fun gn => ?_)))))))
   ·
    try simp only [zS] at gn
    refine zAr (zAp rfl rfl rfl) call5 rfl rfl rfl rfl (Cb.c5 gJ) ?_
    rintro _ mn ⟨rfl, jO⟩
    refine w_p (zAv (v := .bool _) rfl rfl rfl rfl) rfl (w_p (zAi (v := .bool _) rfl rfl) rfl (zAr (zAp rfl rfl rfl) call6 rfl rfl rfl rfl (Ut.c6 jO) ?_))
    rintro _ mo ⟨rfl, jP⟩
    refine w_p (zAv (v := .bool _) rfl rfl rfl rfl) rfl (w_p (zAo (v := .bool _) rfl rfl) rfl (zAe (zAd (jN _ _ (zA7 (zAm (zBa (l := [.tmp 4]) (vs := [_]) rfl ⟨⟨rfl, (rfl : _ = Value.bool _)⟩, trivial⟩ ?_)))))))
    exact ⟨rfl, jP.tail.tail.tail.tail.tail.tail⟩
   exfalso
   try simp only [zS] at gn
   exact gn (Tf.turns_far hu41 (by omega))
  try simp only [zS] at gK
  refine zAx (zAd (jL _ _ (zAg (fun mp jQ => (zAc (zBe rfl rfl (w_p (zB3 rfl rfl rfl rfl) rfl (w_p (zAi (v := .bool _) rfl rfl) rfl (zBp (fun go => ?_) (fun go => ?_))))))))))
  ·
   try simp only [zS] at go
   refine w_y rfl rfl rfl (zA9 (vs := [_,_]) isAgg23 sizeOf23 gJ rfl rfl (zAl (i := 0) (vs := [_,_]) rfl rfl)) rfl ?_
   refine w_y rfl rfl rfl (zA6 rfl rfl) rfl ?_
   refine w_y rfl rfl rfl (zA6 rfl rfl) rfl ?_
   refine w_y rfl rfl rfl (zBx (ps := [(0, _),(1, _)]) (pv := [(0, .int _ _),(1, .int _ _)]) rfl rfl (fun w => zFc _ _ w)) rfl ?_
   refine w_y rfl rfl rfl (zFe (l := [_,_]) (m := [_,_]) eqGuardType23 zD2 (by first | omega | rfl | (simp only [zL] <;> omega)) (by first | omega | rfl | (simp only [zL] <;> omega)) rfl rfl rfl rfl rfl rfl) rfl ?_
   refine w_p (zAv (v := .bool _) rfl rfl rfl rfl) rfl (w_p (zAi (v := .bool _) rfl rfl) rfl (zBp (fun ga => ?_) (fun ga => ?_)))
   ·
    try simp only [zS] at ga
    refine zAr (zAp rfl rfl rfl) call5 rfl rfl rfl rfl (Cb.c5 gJ) ?_
    rintro _ mq ⟨rfl, jR⟩
    refine w_p (zAv (v := .bool _) rfl rfl rfl rfl) rfl (w_p (zAi (v := .bool _) rfl rfl) rfl (zAr (zAp rfl rfl rfl) call6 rfl rfl rfl rfl (Ut.c6 jR) ?_))
    rintro _ mr ⟨rfl, jS⟩
    refine w_p (zAv (v := .bool _) rfl rfl rfl rfl) rfl (w_p (zAo (v := .bool _) rfl rfl) rfl (zAe (zAd (jQ _ _ (zA7 (zBa (l := [.tmp 4]) (vs := [_]) rfl ⟨⟨rfl, (rfl : _ = Value.bool _)⟩, trivial⟩ ?_))))))
    exact ⟨rfl, jS.tail.tail.tail.tail.tail.tail⟩
   exfalso
   try simp only [zS] at ga
   obtain ⟨_, e1, e2⟩ := Tf.turns_near hu41 (show ¬ 8 < u by omega)
   rw [e1, e2] at ga
   exact absurd rfl ga
  exfalso
  try simp only [zS] at go
  exact go (Tf.turns_near hu41 (by omega)).1

end Go.Proofs.Tf
