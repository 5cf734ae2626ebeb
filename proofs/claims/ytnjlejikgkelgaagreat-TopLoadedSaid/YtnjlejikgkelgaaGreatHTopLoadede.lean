/- Own texts of this claim, joined. No conditions. -/
import Derived.Laws.Bits64b
import Derived.Test.YtnjlejikgkelgaaGreatHTopLoadeda
import Derived.Test.YtnjlejikgkelgaaGreatHTopLoadedb
import Derived.Test.YtnjlejikgkelgaaGreatHTopLoadedc
import Derived.Test.YtnjlejikgkelgaaGreatHTopLoadedd
set_option linter.unusedVariables false
set_option linter.unusedSimpArgs false
set_option maxRecDepth 20000
namespace Go.Proofs.Cb
open Go.Proofs.Tryz
open Go.Rt Go.Rt.Ca
attribute [local irreducible] WL WC Con Yd At Ats Sl Agree DW
theorem Try_CP_fb8 (x0 : Int) (w : World) : (Instr.buildSlice 34 1 [(0, .int .i64 x0)].toArray).run Tryz.prog w = .ok (.slice (some ⟨w.heap.size, 0, none⟩) 1 1) (w.alloc (Go.Rt.blk 3 [.int .i64 x0])) := by kernel_rfl
theorem held_e1 {p : Port} {z : Int} (h : ¬ (check p).2.2 = 0) : heldD p z = 0 ∧ heldE p z = (check p).2.2 := by
  unfold heldD heldE
  rw [if_neg (fun hh => h hh.1), if_neg h]; exact ⟨rfl, rfl⟩
theorem held_e2 {p : Port} {z : Int} (h : (check p).2.2 = 0) (h2 : [z].any (out 0 (p.farms.length - 1)) = true) : heldD p z = 0 ∧ heldE p z = 4 := by
  simp only [List.any_cons, List.any_nil, Bool.or_false] at h2
  unfold heldD heldE
  rw [h2]; simp [h]
theorem held_fi {p : Port} {z : Int} (h2 : [z].any (out 0 (p.farms.length - 1)) = false) : ∃ f : Nat, z = f ∧ f < p.farms.length ∧ out 0 (p.farms.length - 1) z = false := by
  simp only [List.any_cons, List.any_nil, Bool.or_false] at h2
  have := (out_iff _ _ _).1 h2
  exact ⟨z.toNat, by omega, by omega, h2⟩
theorem zFk {p : Port} {f : Nat} (h : (check p).2.2 = 0) (h2 : out 0 (p.farms.length - 1) (f : Int) = false) (h3 : ((doP p).any fun l => decide (l.getD f 0 = -1)) = true) (hne : 0 < (doC p).length) : heldD p f = -1 ∧ heldE p f = 0 := by
  unfold heldD heldE
  rw [h2, Int.toNat_natCast, h3]
  have : doC p ≠ [] := fun e => by rw [e] at hne; simp at hne
  simp [h, this]
theorem zGl {p : Port} {f : Nat} (h : (check p).2.2 = 0) (h2 : out 0 (p.farms.length - 1) (f : Int) = false) (h3 : ((doP p).any fun l => decide (l.getD f 0 = -1)) = false) (hne : 0 < (doC p).length) : heldD p f = held p f ∧ heldE p f = 0 := by
  unfold heldD heldE
  rw [h2, Int.toNat_natCast, h3]
  have : doC p ≠ [] := fun e => by rw [e] at hne; simp at hne
  simp [h, this]
theorem zGm {p : Port} {f : Nat} (h : (check p).2.2 = 0) (h2 : out 0 (p.farms.length - 1) (f : Int) = false) (h3 : (doC p).length = 0) : heldD p f = 0 ∧ heldE p f = 9 := by
  have h4 : doC p = [] := List.length_eq_zero_iff.1 h3
  unfold heldD heldE held doP
  rw [h2, h4]; simp [h]
theorem c22 {w0 w : World} {F : List (Nat × Obj)} (p : Port) (a : Option Addr) (c : Nat) (hl3 : p.farms.length ≤ 9223372036854775807) (hc : p.farms.length ≤ c) (ha : Sl w0 F a 6 (rows p.farms)) (hnm : ∀ f ∈ p.farms, f.name.size ≤ 9223372036854775807) (z : Int) (hs : St w0 w F) :
  Con Tryz.prog 22 [.agg (p.cells a c).toArray, .int .i64 z] w fun v w' => v = .tuple #[.int .i64 (heldD p z), .int .i64 (heldE p z)] ∧ St w0 w' F := by
  refine zDr (n := 46) func22 rfl rfl (zNl rfl) ?_
  refine zAf (fun K2 gm => (zAa (zCa (v := .agg #[.int _ _, .int _ _, .int _ _, .slice _ _ _]) (cs := [_,_,_,_]) zAb rfl rfl rfl hs (fun b3 w4 gn => ?_))))
  refine zCa (v := .int _ _) (cs := [_]) zAb rfl rfl rfl gn (fun b6 w7 go => ?_)
  refine zBb (cs := [_]) zAb zeroValue3 rfl go (fun b9 hP gp => ?_)
  refine zBb (cs := [_]) zAb zeroValue30 rfl gp (fun gg hX gh => ?_)
  refine zAe (zAc (gm _ _ (zAf (fun hY gq => (zAa (w_p (zA7 (vs := [_,_,_,_]) isAgg26 sizeOf26 gh rfl rfl (zAh (i := 3) (vs := [_,_,_,_]) rfl rfl)) rfl (zAs zAb call49 rfl rfl rfl rfl (c49 p _ _ (by omega) (by omega) ha.cons.cons.cons.cons hnm gh) ?_)))))))
  rintro _ j0 ⟨rfl, g8⟩
  refine w_p (zAi (v := .tuple _) rfl rfl) rfl (w_p (zAn (v := .int _ _) rfl rfl rfl) rfl (w_p (zAn (v := .int _ _) rfl rfl rfl) rfl (w_p (zAn (v := .int _ _) rfl rfl rfl) rfl (zBl rfl rfl (zBl rfl rfl (zBl rfl rfl ?_))))))
  refine zAe (zAc (gq _ _ (zAf (fun j1 gr => (zAz ?_)))))
  refine zAf (fun j2 gt => (zAa (zBa rfl rfl (w_p (zCt rfl rfl rfl rfl) rfl (w_p (zAm (v := .bool _) rfl rfl) rfl (zAe (zAc (gt _ _ (zAy rfl rfl (fun gb => ?_) (fun gb => ?_))))))))))
  ·
   try simp only [zS] at gb
   refine zAf (fun j3 gu => (zAa (zBa rfl rfl (zA4 (i := 1) (v := .int _ _) (vs := [_]) zAb sizeOf3 rfl rfl rfl rfl rfl (by simp [Value.oneCell']) g8 rfl (zNl rfl) (fun j4 gv => ?_)))))
   refine zA4 (i := 0) (v := .int _ _) (vs := [_]) zAb sizeOf30 rfl rfl rfl rfl rfl (by simp [Value.oneCell']) gv rfl (zNl rfl) (fun j5 g0 => ?_)
   refine zAe (zAc (gu _ _ (zA2 (zAt (zAk (q_retM0 (l := [.cell 4 3, .cell 5 30]) (vs := [_,_]) rfl ⟨⟨rfl, _, rfl, zB1 isAgg3 g0 (zAh (i := 1) (vs := [_]) rfl rfl)⟩, ⟨rfl, _, rfl, zB1 isAgg30 g0 (zAh (i := 0) (vs := [_]) rfl rfl)⟩, trivial⟩ ?_))))))
   first
     | (obtain ⟨e1, e2⟩ := held_e1 (p := p) (z := z) (by assumption); rw [e1, e2]; exact ⟨rfl, g0.tail.tail.tail.tail⟩)
     | (obtain ⟨e1, e2⟩ := held_e2 (p := p) (z := z) (by assumption) (by assumption); rw [e1, e2]; exact ⟨rfl, g0.tail.tail.tail.tail⟩)
     | (obtain ⟨e1, e2⟩ := zFk (p := p) (f := f) (by assumption) hfo hnv hdc; rw [e1, e2]; exact ⟨rfl, g0.tail.tail.tail.tail⟩)
     | (obtain ⟨e1, e2⟩ := zGm (p := p) (f := f) (by assumption) hfo (by omega); rw [e1, e2]; exact ⟨rfl, g0.tail.tail.tail.tail⟩)
     | (rw [zEh (by simp [doP])] at hnv; obtain ⟨e1, e2⟩ := zGl (p := p) (f := f) (by assumption) hfo hnv (by omega); rw [e1, e2, ← zEf (i := (doC p).length) (by simp [doP])]; exact ⟨rfl, g0.tail.tail.tail.tail⟩)
  try simp only [zS] at gb
  refine zAf (fun j6 gw => ?_)
  have hok := check_ok (by assumption)
  have hlen3 := hok.len
  refine zAa (w_p (zAd (o := 3) (i := 2) underlying26 rfl sizeOf24 rfl rfl rfl) rfl (w_p (zAj isAgg24 g8 rfl rfl (zAh (i := 3) (vs := [_]) rfl rfl)) rfl (w_p (zBm underlying24 rfl rfl) rfl (w_p (zEi rfl rfl rfl rfl (by omega) (by omega)) rfl ?_))))
  refine w_p (zAj isAgg3 g8 rfl rfl (zAh (i := 2) (vs := [_]) rfl rfl)) rfl (zA0 (ps := [(0, _)]) (pv := [(0, .int _ _)]) (cs := [_]) zAb rfl rfl (fun w => Try_CP_fb8 _ w) g8 (fun j7 j8 gx => ?_))
  refine zAs zAb call55 rfl rfl rfl rfl (c55 _ _ _ [_] _ (by simp) (zBp (i := 0) (rows := [[_]]) rfl (by simp) rfl) gx) ?_
  rintro _ j9 ⟨rfl, gi⟩
  refine w_p (zAm (v := .bool _) rfl rfl) rfl (zAe (zAc (gw _ _ (zAy rfl rfl (fun gc => ?_) (fun gc => ?_)))))
  ·
   try simp only [zS] at gc
   refine zAf (fun ja gy => (zAa (zA4 (i := 2) (v := .int _ _) (vs := [_]) zAb sizeOf3 rfl rfl rfl rfl rfl (by simp [Value.oneCell']) gi rfl (zNl rfl) (fun jb gz => ?_))))
   refine zA4 (i := 1) (v := .int _ _) (vs := [_]) zAb sizeOf30 rfl rfl rfl rfl rfl (by simp [Value.oneCell']) gz rfl (zNl rfl) (fun jc g4 => ?_)
   refine zAe (zAc (gy _ _ (zA2 (zAt (zAk (q_retM0 (l := [.cell 4 3, .cell 5 30]) (vs := [_,_]) rfl ⟨⟨rfl, _, rfl, zB1 isAgg3 g4 (zAh (i := 2) (vs := [_]) rfl rfl)⟩, ⟨rfl, _, rfl, zB1 isAgg30 g4 (zAh (i := 1) (vs := [_]) rfl rfl)⟩, trivial⟩ ?_))))))
   first
     | (obtain ⟨e1, e2⟩ := held_e1 (p := p) (z := z) (by assumption); rw [e1, e2]; exact ⟨rfl, g4.tail.tail.tail.tail.tail⟩)
     | (obtain ⟨e1, e2⟩ := held_e2 (p := p) (z := z) (by assumption) (by assumption); rw [e1, e2]; exact ⟨rfl, g4.tail.tail.tail.tail.tail⟩)
     | (obtain ⟨e1, e2⟩ := zFk (p := p) (f := f) (by assumption) hfo hnv hdc; rw [e1, e2]; exact ⟨rfl, g4.tail.tail.tail.tail.tail⟩)
     | (obtain ⟨e1, e2⟩ := zGm (p := p) (f := f) (by assumption) hfo (by omega); rw [e1, e2]; exact ⟨rfl, g4.tail.tail.tail.tail.tail⟩)
     | (rw [zEh (by simp [doP])] at hnv; obtain ⟨e1, e2⟩ := zGl (p := p) (f := f) (by assumption) hfo hnv (by omega); rw [e1, e2, ← zEf (i := (doC p).length) (by simp [doP])]; exact ⟨rfl, g4.tail.tail.tail.tail.tail⟩)
  try simp only [zS] at gc
  refine zAv (zAl (zAc (gr _ _ (zAf (fun jd gA => ?_)))))
  have gB := gi.tail
  obtain ⟨f, rfl, hfl, hfo⟩ := held_fi (p := p) (by assumption)
  refine zAa (zBb (cs := [_]) zAb zeroValue3 rfl gB (fun gj je gC => ?_))
  refine zBb (cs := [_]) zAb zeroValue4 rfl gC (fun gk jf gD => ?_)
  refine zA4 (i := 1) (v := .int _ _) (vs := [_]) zAb sizeOf3 rfl rfl rfl rfl rfl (by simp [Value.oneCell']) gD rfl (zNl rfl) (fun jg gE => ?_)
  refine zA4 (i := 0) (v := .bool _) (vs := [_]) zAb sizeOf4 rfl rfl rfl rfl rfl (by simp [Value.oneCell']) gE rfl (zNl rfl) (fun jh gl => ?_)
  refine zAe (zAc (gA _ _ (zAf (fun ji gF => (zAf (fun jj gG => (zAa (w_p (zA7 (vs := [_,_,_,_]) isAgg26 sizeOf26 gl rfl rfl (zAh (i := 5) (vs := [_,_,_,_]) rfl rfl)) rfl ?_))))))))
  refine zAs zAb call50 rfl rfl rfl rfl (c50 p _ _ gl) ?_
  rintro _ jk ⟨m, pb, rfl, gH⟩
  refine zAs zAb call52 rfl rfl rfl rfl (c52 _ gH) ?_
  rintro _ jl ⟨bq, rfl, gI⟩
  refine zAe (zAc (gG _ _ (zAz ?_)))
  refine w_range ([_,_,_,_]) (fun i Bx => Bx = [(gk, blk 4 [.bool (decide (0 < i))]), (gj, blk 3 [.int .i64 (heldUpto p f i)]), (gg, blk 30 [.int .i64 0]), (b9, blk 3 [.int .i64 0])] ∧ anyNever p f i = false) (fun cd Bx => cd = .ret ∧ (∃ x y, Bx = [(gk, blk 4 [.bool x]), (gj, blk 3 [.int .i64 y]), (gg, blk 30 [.int .i64 0]), (b9, blk 3 [.int .i64 (-1)])]) ∧ ((doP p).any fun l => decide (l.getD f 0 = -1)) = true ∧ 0 < (doC p).length) rfl rfl rfl call78 (does_iter (F := ((bq, blk 79 [.pointer (some ⟨pb, 0, none⟩)]) :: (m, .map #[] 0) :: (pb, blk 137 [.int .i64 p.hold, .int .i64 p.clo, .int .i64 p.chi, .slice a p.farms.length c, .map (some m)]) :: (b6, blk 3 [.int .i64 (f : Int)]) :: (b3, blk 26 (p.cells a c)) :: F)) p a c m pb (zAh (i := 2) (vs := [_,_,_,_,_]) rfl rfl) ha.cons.cons.cons.cons.cons hok bq (zAh (i := 0) (vs := [_]) rfl rfl)) gI (zAq [_,_,_] [_,_,_,_] _) ⟨rfl, rfl⟩ ?_ ?_ ?_
  ·
   intro lp i hi Bx Xr Xr2 jm hJ hs K gJ
   obtain ⟨rfl, hnv⟩ := hJ
   have hi2 : i < (doP p).length := by simpa [doP] using hi
   have hi3 : i < (doC p).length := by simpa using hi
   rw [List.getElem_map, show ((doC p).map pad)[i]'(by simpa [doP] using hi2) = (doP p)[i] from rfl]
   have hlen := doP_len _ (List.getElem_mem hi2)
   have hl1 := doP_in _ (List.getElem_mem hi2)
   obtain ⟨l, hl⟩ : ∃ l, l = (doP p)[i] := ⟨_, rfl⟩
   rw [← hl] at hlen hl1 ⊢
   replace hs := (show St _ _ (_ :: _ :: _ :: _ :: (Xr ++ (_ :: _ :: _ :: _ :: _ :: F))) from hs)
   have hb3 : Ats w0 ((bq, blk 79 [.pointer (some ⟨pb, 0, none⟩)]) :: (m, .map #[] 0) :: (pb, blk 137 [.int .i64 p.hold, .int .i64 p.clo, .int .i64 p.chi, .slice a p.farms.length c, .map (some m)]) :: (b6, blk 3 [.int .i64 (f : Int)]) :: (b3, blk 26 (p.cells a c)) :: F) b6 0 [.int .i64 (f : Int)] := zAh (i := 3) (vs := [_]) rfl rfl
   refine zAa (zBb (cs := iv [0,0,0]) zAb zeroValue81 rfl hs (fun jn jo gK => ?_))
   refine zCm (i := 0) (l := _) zAb sizeOf81 (by first | omega | rfl | (simp only [zL] <;> omega)) rfl rfl rfl rfl rfl gK rfl (by first | omega | rfl | (simp only [zL] <;> omega)) (fun jp gL => ?_)
   refine zAe (zAc (gJ _ _ (_ :: _ :: _ :: _ :: _ :: []) gL (fun jq gd => ?_)))
   replace gd := (show St _ _ (_ :: _ :: _ :: _ :: _ :: Xr2 ++ (_ :: _ :: _ :: _ :: _ :: F)) from gd)
   refine zAz ?_
   refine zAf (fun jr gM => (zAf (fun js gN => (zAa (zA4 (i := 1) (v := .bool _) (vs := [_]) zAb sizeOf4 rfl rfl rfl rfl rfl (by simp [Value.oneCell']) gd rfl (zNl rfl) (fun jt g9 => ?_))))))
   refine zAe (zAc (gN _ _ (zAf (fun ju gO => (zAa (w_p (zAj isAgg3 g9.tail.tail.tail.tail.tail.drop rfl rfl hb3) rfl (w_p (zC3 underlying81 sizeOf3 rfl rfl rfl rfl (i := f) (by first | rfl | omega) (by omega)) rfl ?_)))))))
   refine w_p (zAj isAgg3 g9 rfl rfl (zD8 (i := 0) (j := f) rfl (by first | omega | rfl | (simp only [zL] <;> omega)))) rfl ?_
   refine w_p (zBw rfl rfl rfl rfl) rfl (zAe (zAc (gO _ _ (zAy rfl rfl (fun ge => ?_) (fun ge => ?_)))))
   ·
    try simp only [zS] at ge
    refine zAf (fun jv gP => (zAa (zA4 (i := 4) (v := .int _ _) (vs := [_]) zAb sizeOf3 rfl rfl rfl rfl rfl (by simp [Value.oneCell']) g9 rfl (zNl rfl) (fun jw gQ => ?_))))
    refine zA4 (i := 3) (v := .int _ _) (vs := [_]) zAb sizeOf30 rfl rfl rfl rfl rfl (by simp [Value.oneCell']) gQ rfl (zNl rfl) (fun jx gR => ?_)
    refine zAe (zAc (gP _ _ (zA2 (zAk (zAt (rd_ret (_ :: _ :: _ :: _ :: []) gR.tail ?_))))))
    exact ⟨rfl, ⟨_, _, rfl⟩, anyNever_true (i := i + 1) (by rw [zH9 hi2, hnv, ← hl, Bool.false_or]; exact decide_eq_true (by assumption)), by omega⟩
   try simp only [zS] at ge
   refine zAv (zAc (gM _ _ (zCs [5] [(0,1),(1,1),(2,0),(3,1),(4,0),(5,3)] zCg (by kernel_rfl) g9 (fun jy ga => ?_))))
   refine zBh rfl zAb rfl ga (fun _ hq => (zAj isAgg3 hq rfl rfl (zAh (i := 2) (vs := [_]) rfl rfl))) ?_
   refine zBh rfl zAb rfl ga (fun _ hq => (zAj isAgg3 hq.tail.tail.tail.tail.tail.drop rfl rfl hb3)) ?_
   refine d_w rfl (fun _ => zC3 underlying81 sizeOf3 rfl rfl rfl rfl (i := f) (by first | rfl | omega) (by omega)) rfl ?_
   refine zBh rfl zAb rfl ga (fun _ hq => (zAj isAgg3 hq rfl rfl (zD8 (i := 0) (j := f) rfl (by first | omega | rfl | (simp only [zL] <;> omega))))) ?_
   refine d_w rfl (fun _ => zF4 rfl rfl rfl rfl) rfl ?_
   refine zDt rfl ?_
   refine zA4 (i := 2) (v := .int _ _) (vs := [_]) zAb sizeOf3 rfl rfl rfl rfl rfl (by simp [Value.oneCell']) ga rfl (zNl rfl) (fun jz gT => ?_)
   refine zAe (qn ?_)
   refine zB0 ?_
   refine zAl (zCu (_ :: _ :: _ :: _ :: []) gT.tail ?_)
   exact ⟨by rw [heldUpto_succ hi2, ← hl]; rfl, by rw [zH9 hi2, hnv, ← hl, Bool.false_or]; exact decide_eq_false (by assumption)⟩
  ·
   intro bd Bx jA hJ hs
   obtain ⟨rfl, hnv⟩ := hJ
   rw [List.length_map, List.length_map] at *
   replace hs := (show St _ _ (_ :: _ :: _ :: _ :: _ :: _ :: _ :: _ :: _ :: _ :: F) from hs)
   refine zAl (zAc (gF _ _ (zAf (fun jB gU => (zAf (fun jC gV => (zAa (w_p (zAj isAgg4 hs rfl rfl (zAh (i := 1) (vs := [_]) rfl rfl)) rfl ?_))))))))
   refine w_p (zDi rfl rfl) rfl (zAe (zAc (gV _ _ (zAy rfl rfl (fun gf => ?_) (fun gf => ?_)))))
   ·
    try simp only [zS] at gf
    refine zAf (fun jD gW => (zAa (zA4 (i := 4) (v := .int _ _) (vs := [_]) zAb sizeOf3 rfl rfl rfl rfl rfl (by simp [Value.oneCell']) hs rfl (zNl rfl) (fun jE gX => ?_))))
    refine zA4 (i := 3) (v := .int _ _) (vs := [_]) zAb sizeOf30 rfl rfl rfl rfl rfl (by simp [Value.oneCell']) gX rfl (zNl rfl) (fun jF gY => ?_)
    refine zAe (zAc (gW _ _ (zA2 (zAk (zEw (i := 0) (l := [.cell 4 3, .cell 5 30]) (vs := [_,_]) gY rfl rfl (fun jG g5 => ⟨⟨⟨rfl, _, rfl, zB1 isAgg3 g5 (zAh (i := 4) (vs := [_]) rfl rfl)⟩, ⟨rfl, _, rfl, zB1 isAgg30 g5 (zAh (i := 3) (vs := [_]) rfl rfl)⟩, trivial⟩, ?_⟩))))))
    first
      | (obtain ⟨e1, e2⟩ := held_e1 (p := p) (z := z) (by assumption); rw [e1, e2]; exact ⟨rfl, g5.tail.tail.tail.tail.tail.tail.tail.tail.tail.tail⟩)
      | (obtain ⟨e1, e2⟩ := held_e2 (p := p) (z := z) (by assumption) (by assumption); rw [e1, e2]; exact ⟨rfl, g5.tail.tail.tail.tail.tail.tail.tail.tail.tail.tail⟩)
      | (obtain ⟨e1, e2⟩ := zFk (p := p) (f := f) (by assumption) hfo hnv hdc; rw [e1, e2]; exact ⟨rfl, g5.tail.tail.tail.tail.tail.tail.tail.tail.tail.tail⟩)
      | (obtain ⟨e1, e2⟩ := zGm (p := p) (f := f) (by assumption) hfo (by omega); rw [e1, e2]; exact ⟨rfl, g5.tail.tail.tail.tail.tail.tail.tail.tail.tail.tail⟩)
      | (rw [zEh (by simp [doP])] at hnv; obtain ⟨e1, e2⟩ := zGl (p := p) (f := f) (by assumption) hfo hnv (by omega); rw [e1, e2, ← zEf (i := (doC p).length) (by simp [doP])]; exact ⟨rfl, g5.tail.tail.tail.tail.tail.tail.tail.tail.tail.tail⟩)
   try simp only [zS] at gf
   refine zAv (zAc (gU _ _ (zAf (fun jH gZ => (zAa (w_p (zAj isAgg3 hs rfl rfl (zAh (i := 2) (vs := [_]) rfl rfl)) rfl (zA4 (i := 4) (v := .int _ _) (vs := [_]) zAb sizeOf3 rfl rfl rfl rfl rfl (by simp [Value.oneCell']) hs rfl (zNl rfl) (fun jI hD => ?_))))))))
   refine zA4 (i := 3) (v := .int _ _) (vs := [_]) zAb sizeOf30 rfl rfl rfl rfl rfl (by simp [Value.oneCell']) hD rfl (zNl rfl) (fun jJ hO => ?_)
   refine zAe (zAc (gZ _ _ (zA2 (zEw (i := 0) (l := [.cell 4 3, .cell 5 30]) (vs := [_,_]) hO rfl rfl (fun jK g6 => ⟨⟨⟨rfl, _, rfl, zB1 isAgg3 g6 (zAh (i := 4) (vs := [_]) rfl rfl)⟩, ⟨rfl, _, rfl, zB1 isAgg30 g6 (zAh (i := 3) (vs := [_]) rfl rfl)⟩, trivial⟩, ?_⟩)))))
   first
     | (obtain ⟨e1, e2⟩ := held_e1 (p := p) (z := z) (by assumption); rw [e1, e2]; exact ⟨rfl, g6.tail.tail.tail.tail.tail.tail.tail.tail.tail.tail⟩)
     | (obtain ⟨e1, e2⟩ := held_e2 (p := p) (z := z) (by assumption) (by assumption); rw [e1, e2]; exact ⟨rfl, g6.tail.tail.tail.tail.tail.tail.tail.tail.tail.tail⟩)
     | (obtain ⟨e1, e2⟩ := zFk (p := p) (f := f) (by assumption) hfo hnv hdc; rw [e1, e2]; exact ⟨rfl, g6.tail.tail.tail.tail.tail.tail.tail.tail.tail.tail⟩)
     | (obtain ⟨e1, e2⟩ := zGm (p := p) (f := f) (by assumption) hfo (by omega); rw [e1, e2]; exact ⟨rfl, g6.tail.tail.tail.tail.tail.tail.tail.tail.tail.tail⟩)
     | (rw [zEh (by simp [doP])] at hnv; obtain ⟨e1, e2⟩ := zGl (p := p) (f := f) (by assumption) hfo hnv (by omega); rw [e1, e2, ← zEf (i := (doC p).length) (by simp [doP])]; exact ⟨rfl, g6.tail.tail.tail.tail.tail.tail.tail.tail.tail.tail⟩)
  intro bd c Bx jL hJ hs
  obtain ⟨rfl, ⟨x, y, rfl⟩, hnv, hdc⟩ := hJ
  replace hs := (show St _ _ (_ :: _ :: _ :: _ :: _ :: _ :: _ :: _ :: _ :: _ :: F) from hs)
  refine zA2 (zAt (zAk (zEw (i := 0) (l := [.cell 4 3, .cell 5 30]) (vs := [_,_]) hs rfl rfl (fun jM g7 => ⟨⟨⟨rfl, _, rfl, zB1 isAgg3 g7 (zAh (i := 4) (vs := [_]) rfl rfl)⟩, ⟨rfl, _, rfl, zB1 isAgg30 g7 (zAh (i := 3) (vs := [_]) rfl rfl)⟩, trivial⟩, ?_⟩))))
  first
    | (obtain ⟨e1, e2⟩ := held_e1 (p := p) (z := z) (by assumption); rw [e1, e2]; exact ⟨rfl, g7.tail.tail.tail.tail.tail.tail.tail.tail.tail.tail⟩)
    | (obtain ⟨e1, e2⟩ := held_e2 (p := p) (z := z) (by assumption) (by assumption); rw [e1, e2]; exact ⟨rfl, g7.tail.tail.tail.tail.tail.tail.tail.tail.tail.tail⟩)
    | (obtain ⟨e1, e2⟩ := zFk (p := p) (f := f) (by assumption) hfo hnv hdc; rw [e1, e2]; exact ⟨rfl, g7.tail.tail.tail.tail.tail.tail.tail.tail.tail.tail⟩)
    | (obtain ⟨e1, e2⟩ := zGm (p := p) (f := f) (by assumption) hfo (by omega); rw [e1, e2]; exact ⟨rfl, g7.tail.tail.tail.tail.tail.tail.tail.tail.tail.tail⟩)
    | (rw [zEh (by simp [doP])] at hnv; obtain ⟨e1, e2⟩ := zGl (p := p) (f := f) (by assumption) hfo hnv (by omega); rw [e1, e2, ← zEf (i := (doC p).length) (by simp [doP])]; exact ⟨rfl, g7.tail.tail.tail.tail.tail.tail.tail.tail.tail.tail⟩)

theorem told_e1 {p : Port} {z : Int} (h : ¬ (check p).2.2 = 0) : toldD p z = 0 ∧ toldE p z = (check p).2.2 := by
  unfold toldD toldE
  rw [if_neg (fun hh => h hh.1), if_neg h]; exact ⟨rfl, rfl⟩
theorem told_e2 {p : Port} {z : Int} (h : (check p).2.2 = 0) (h2 : [z].any (out 0 10) = true) : toldD p z = 0 ∧ toldE p z = 7 := by
  simp only [List.any_cons, List.any_nil, Bool.or_false] at h2
  unfold toldD toldE
  rw [h2]; simp [h]
theorem told_d {z : Int} (h2 : [z].any (out 0 10) = false) : ∃ d : Nat, z = d ∧ d ≤ 10 ∧ out 0 10 z = false := by
  simp only [List.any_cons, List.any_nil, Bool.or_false] at h2
  have := (out_iff _ _ _).1 h2
  exact ⟨z.toNat, by omega, by omega, h2⟩
theorem told_e3 {p : Port} {d : Nat} (h : (check p).2.2 = 0) (h2 : out 0 10 (d : Int) = false) (h3 : told p d < 0) : toldD p d = 0 ∧ toldE p d = 9 := by
  unfold toldD toldE
  rw [h2, Int.toNat_natCast]; simp [h, h3]; omega
theorem told_ok {p : Port} {d : Nat} (h : (check p).2.2 = 0) (h2 : out 0 10 (d : Int) = false) (h3 : 0 ≤ told p d) : toldD p d = told p d ∧ toldE p d = 0 := by
  unfold toldD toldE
  rw [h2, Int.toNat_natCast]; simp [h, h3]
theorem c24 {w0 w : World} {F : List (Nat × Obj)} (p : Port) (a : Option Addr) (c : Nat) (hl3 : p.farms.length ≤ 9223372036854775807) (hc : p.farms.length ≤ c) (ha : Sl w0 F a 6 (rows p.farms)) (hnm : ∀ f ∈ p.farms, f.name.size ≤ 9223372036854775807) (z : Int) (hs : St w0 w F) :
  Con Tryz.prog 24 [.agg (p.cells a c).toArray, .int .i64 z] w fun v w' => v = .tuple #[.int .i64 (toldD p z), .int .i64 (toldE p z)] ∧ St w0 w' F := by
  refine zDr (n := 52) func24 rfl rfl (zNl rfl) ?_
  refine zAf (fun K2 gk => (zAa (zCa (v := .agg #[.int _ _, .int _ _, .int _ _, .slice _ _ _]) (cs := [_,_,_,_]) zAb rfl rfl rfl hs (fun b3 w4 gl => ?_))))
  refine zCa (v := .int _ _) (cs := [_]) zAb rfl rfl rfl gl (fun b6 w7 gi => ?_)
  refine zBg rfl rfl (zBg rfl rfl (zAe (zAc (gk _ _ (zAf (fun gO gm => (zAa (w_p (zA7 (vs := [_,_,_,_]) isAgg26 sizeOf26 gi rfl rfl (zAh (i := 1) (vs := [_,_,_,_]) rfl rfl)) rfl ?_))))))))
  refine zAs zAb call49 rfl rfl rfl rfl (c49 p _ _ (by omega) (by omega) ha.cons.cons hnm gi) ?_
  rintro _ gP ⟨rfl, g0⟩
  refine w_p (zAi (v := .tuple _) rfl rfl) rfl (w_p (zAn (v := .int _ _) rfl rfl rfl) rfl (w_p (zAn (v := .int _ _) rfl rfl rfl) rfl (w_p (zAn (v := .int _ _) rfl rfl rfl) rfl (zBl rfl rfl (zBl rfl rfl (zBl rfl rfl ?_))))))
  refine zAe (zAc (gm _ _ (zAf (fun gQ gn => (zAz ?_)))))
  refine zAf (fun gR go => (zAa (zBa rfl rfl (w_p (zCt rfl rfl rfl rfl) rfl (w_p (zAm (v := .bool _) rfl rfl) rfl (zAe (zAc (go _ _ (zAy rfl rfl (fun ga => ?_) (fun ga => ?_))))))))))
  ·
   try simp only [zS] at ga
   refine zAf (fun gT gp => (zAa (zBa rfl rfl (zBg rfl rfl (zBl rfl rfl (zAe (zAc (gp _ _ (zA2 (zAt (zAk (q_retM0 (l := [.tmp 4, .tmp 5]) (vs := [_,_]) rfl ⟨⟨rfl, (rfl : _ = Value.int _ _)⟩, ⟨rfl, (rfl : _ = Value.int _ _)⟩, trivial⟩ ?_))))))))))))
   first
     | (obtain ⟨e1, e2⟩ := told_e1 (p := p) (z := z) (by assumption); rw [e1, e2]; exact ⟨rfl, g0.tail.tail⟩)
     | (obtain ⟨e1, e2⟩ := told_e2 (p := p) (z := z) (by assumption) (by assumption); rw [e1, e2]; exact ⟨rfl, g0.tail.tail⟩)
     | (have hall := zDj (p := p) (d := d) (i := (((allC d p.farms.length).map pad).map ia).length) (by simp); obtain ⟨e1, e2⟩ := told_e3 (p := p) (d := d) (by assumption) hdo (by omega); rw [e1, e2]; exact ⟨rfl, g0.tail.tail⟩)
     | (have hall := zDj (p := p) (d := d) (i := (((allC d p.farms.length).map pad).map ia).length) (by simp); obtain ⟨e1, e2⟩ := told_ok (p := p) (d := d) (by assumption) hdo (by omega); rw [e1, e2, ← hall]; exact ⟨rfl, g0.tail.tail⟩)
  try simp only [zS] at ga
  refine zAf (fun gU gq => ?_)
  have hok := check_ok (by assumption)
  have hlen3 := hok.len
  refine zAa (w_p (zAj isAgg3 g0 rfl rfl (zAh (i := 0) (vs := [_]) rfl rfl)) rfl (zA0 (ps := [(0, _)]) (pv := [(0, .int _ _)]) (cs := [_]) zAb rfl rfl (fun w => Try_CP_fb8 _ w) g0 (fun gV gW gr => ?_)))
  refine zAs zAb call55 rfl rfl rfl rfl (c55 _ _ _ [_] _ (by simp) (zBp (i := 0) (rows := [[_]]) rfl (by simp) rfl) gr) ?_
  rintro _ gX ⟨rfl, g6⟩
  refine w_p (zAm (v := .bool _) rfl rfl) rfl (zAe (zAc (gq _ _ (zAy rfl rfl (fun gb => ?_) (fun gb => ?_)))))
  ·
   try simp only [zS] at gb
   refine zAf (fun gY gt => (zAa (zBg rfl rfl (zBg rfl rfl (zAe (zAc (gt _ _ (zA2 (zAt (zAk (q_retM0 (l := [.tmp 4, .tmp 5]) (vs := [_,_]) rfl ⟨⟨rfl, (rfl : _ = Value.int _ _)⟩, ⟨rfl, (rfl : _ = Value.int _ _)⟩, trivial⟩ ?_)))))))))))
   first
     | (obtain ⟨e1, e2⟩ := told_e1 (p := p) (z := z) (by assumption); rw [e1, e2]; exact ⟨rfl, g6.tail.tail.tail⟩)
     | (obtain ⟨e1, e2⟩ := told_e2 (p := p) (z := z) (by assumption) (by assumption); rw [e1, e2]; exact ⟨rfl, g6.tail.tail.tail⟩)
     | (have hall := zDj (p := p) (d := d) (i := (((allC d p.farms.length).map pad).map ia).length) (by simp); obtain ⟨e1, e2⟩ := told_e3 (p := p) (d := d) (by assumption) hdo (by omega); rw [e1, e2]; exact ⟨rfl, g6.tail.tail.tail⟩)
     | (have hall := zDj (p := p) (d := d) (i := (((allC d p.farms.length).map pad).map ia).length) (by simp); obtain ⟨e1, e2⟩ := told_ok (p := p) (d := d) (by assumption) hdo (by omega); rw [e1, e2, ← hall]; exact ⟨rfl, g6.tail.tail.tail⟩)
  try simp only [zS] at gb
  refine zAv (zAl (zAc (gn _ _ (zAf (fun gZ gu => ?_)))))
  have gj := g6.tail
  obtain ⟨d, rfl, hd10, hdo⟩ := told_d (by assumption)
  refine zAa (w_p (zA7 (vs := [_,_,_,_]) isAgg26 sizeOf26 gj rfl rfl (zAh (i := 1) (vs := [_,_,_,_]) rfl rfl)) rfl (zAs zAb call50 rfl rfl rfl rfl (c50 p _ _ gj) ?_))
  rintro _ hD ⟨m, pb, rfl, gv⟩
  refine zBb (cs := [_]) zAb zeroValue79 rfl gv (fun g7 hO gw => ?_)
  refine zA4 (i := 0) (v := .pointer _) (vs := [_]) zAb sizeOf79 rfl rfl rfl rfl rfl (by simp [Value.oneCell']) gw rfl (zNl rfl) (fun hP gx => ?_)
  refine zAe (zAc (gu _ _ (zAf (fun hX gy => (zAa (zBb (cs := [_]) zAb zeroValue3 rfl gx (fun gz hY gA => ?_)))))))
  refine zA4 (i := 0) (v := .int _ _) (vs := [_]) zAb sizeOf3 rfl rfl rfl rfl rfl (by simp [Value.oneCell']) gA rfl (zNl rfl) (fun j0 gc => ?_)
  refine zAe (zAc (gy _ _ (zAf (fun j1 gB => (zAf (fun j2 gC => (zAa (w_p (zAj isAgg79 gc rfl rfl (zAh (i := 1) (vs := [_]) rfl rfl)) rfl ?_))))))))
  refine w_p (zAj isAgg3 gc rfl rfl (zAh (i := 4) (vs := [_]) rfl rfl)) rfl (zAs zAb call58 rfl rfl rfl rfl (c58 _ _ gc) ?_)
  rintro _ j3 ⟨bp, bb, rfl, gD⟩
  refine zAe (zAc (gC _ _ (zAz ?_)))
  refine w_range ([_]) (fun i Bx => Bx = [(gz, blk 3 [.int .i64 (toldUpto p d i)])]) (fun _ _ => False) rfl rfl rfl call81 (all_iter (F := ((bb, blk 3 [.int .i64 (d : Int)]) :: (bp, blk 79 [.pointer (some ⟨pb, 0, none⟩)]) :: (g7, blk 79 [.pointer (some ⟨pb, 0, none⟩)]) :: (m, .map #[] 0) :: (pb, blk 137 [.int .i64 p.hold, .int .i64 p.clo, .int .i64 p.chi, .slice a p.farms.length c, .map (some m)]) :: (b6, blk 3 [.int .i64 (d : Int)]) :: (b3, blk 26 (p.cells a c)) :: F)) p a c m pb (zAh (i := 4) (vs := [_,_,_,_,_]) rfl rfl) ha.cons.cons.cons.cons.cons.cons.cons hok d bp bb (by omega) (zAh (i := 1) (vs := [_]) rfl rfl) (zAh (i := 0) (vs := [_]) rfl rfl)) gD (zAq [_,_] [_] _) rfl ?_ ?_ ?_
  ·
   intro lp i hi Bx Xr Xr2 j4 hJ hs K gE
   subst hJ
   have hi2 : i < ((allC d p.farms.length).map pad).length := by simpa using hi
   rw [List.getElem_map]
   have hlen : (((allC d p.farms.length).map pad)[i]).length = 3 := by rw [List.getElem_map]; exact zB6 _
   have hl1 : ∀ y ∈ ((allC d p.farms.length).map pad)[i], -1 ≤ y ∧ y ≤ 10 := by rw [List.getElem_map]; exact allpad_in (by omega) _
   obtain ⟨l, hl⟩ : ∃ l, l = ((allC d p.farms.length).map pad)[i] := ⟨_, rfl⟩
   rw [← hl] at hlen hl1 ⊢
   replace hs := (show St _ _ (_ :: (Xr ++ (_ :: _ :: _ :: _ :: _ :: _ :: _ :: F))) from hs)
   have hb3 : Ats w0 ((bb, blk 3 [.int .i64 (d : Int)]) :: (bp, blk 79 [.pointer (some ⟨pb, 0, none⟩)]) :: (g7, blk 79 [.pointer (some ⟨pb, 0, none⟩)]) :: (m, .map #[] 0) :: (pb, blk 137 [.int .i64 p.hold, .int .i64 p.clo, .int .i64 p.chi, .slice a p.farms.length c, .map (some m)]) :: (b6, blk 3 [.int .i64 (d : Int)]) :: (b3, blk 26 (p.cells a c)) :: F) b6 0 [.int .i64 (d : Int)] := zAh (i := 5) (vs := [_]) rfl rfl
   have hb9 : Ats w0 ((bb, blk 3 [.int .i64 (d : Int)]) :: (bp, blk 79 [.pointer (some ⟨pb, 0, none⟩)]) :: (g7, blk 79 [.pointer (some ⟨pb, 0, none⟩)]) :: (m, .map #[] 0) :: (pb, blk 137 [.int .i64 p.hold, .int .i64 p.clo, .int .i64 p.chi, .slice a p.farms.length c, .map (some m)]) :: (b6, blk 3 [.int .i64 (d : Int)]) :: (b3, blk 26 (p.cells a c)) :: F) g7 0 [.pointer (some ⟨pb, 0, none⟩)] := zAh (i := 2) (vs := [_]) rfl rfl
   refine zAa (zBb (cs := iv [0,0,0]) zAb zeroValue81 rfl hs (fun j5 j6 gF => ?_))
   refine zCm (i := 0) (l := _) zAb sizeOf81 (by first | omega | rfl | (simp only [zL] <;> omega)) rfl rfl rfl rfl rfl gF rfl (by first | omega | rfl | (simp only [zL] <;> omega)) (fun j7 gG => ?_)
   refine zAe (zAc (gE _ _ (_ :: _ :: []) gG (fun j8 g4 => ?_)))
   replace g4 := (show St _ _ (_ :: _ :: Xr2 ++ (_ :: _ :: _ :: _ :: _ :: _ :: _ :: F)) from g4)
   refine zAz ?_
   refine zAf (fun j9 gH => (zAa (w_p (zAj isAgg79 g4.tail.tail.drop rfl rfl hb9) rfl (w_p (zB5 (i := 0) isAgg81 sizeOf81 (by first | omega | rfl | (simp only [zL] <;> omega)) g4 rfl rfl rfl) rfl ?_))))
   refine w_p (zAj isAgg3 g4.tail.tail.drop rfl rfl hb3) rfl (zAs zAb call59 rfl rfl rfl rfl (c59 (F := _ :: _ :: (Xr2 ++ ((bb, blk 3 [.int .i64 (d : Int)]) :: (bp, blk 79 [.pointer (some ⟨pb, 0, none⟩)]) :: (g7, blk 79 [.pointer (some ⟨pb, 0, none⟩)]) :: (m, .map #[] 0) :: (pb, blk 137 [.int .i64 p.hold, .int .i64 p.clo, .int .i64 p.chi, .slice a p.farms.length c, .map (some m)]) :: (b6, blk 3 [.int .i64 (d : Int)]) :: (b3, blk 26 (p.cells a c)) :: F))) p _ c m pb (zAh (i := 4) (vs := [_,_,_,_,_]) rfl rfl).app.cons.cons ha.cons.cons.cons.cons.cons.cons.cons.app.cons.cons hok l hlen hl1 _ (by omega) (by omega) g4) ?_)
   rintro _ ja ⟨rfl, g5⟩
   refine zBl rfl rfl (zAe (zAc (gH _ _ (zAf (fun jb gd => (zAa (zBa rfl rfl (w_p (zF5 rfl rfl rfl rfl) rfl (w_p (zAi (v := .bool _) rfl rfl) rfl ?_)))))))))
   refine zBk (fun ge => ?_) (fun ge => ?_)
   ·
    try simp only [zS] at ge
    refine w_y rfl rfl rfl (zAj isAgg3 g5 rfl rfl (zAh (i := 1) (vs := [_]) rfl rfl)) rfl ?_
    refine w_y rfl rfl rfl (zCl rfl rfl rfl rfl) rfl ?_
    refine w_y rfl rfl rfl (zAi (v := .bool _) rfl rfl) rfl ?_
    refine zBk (fun gf => ?_) (fun gf => ?_)
    ·
     try simp only [zS] at gf
     refine zAg rfl rfl rfl ?_
     refine zAg rfl rfl rfl ?_
     refine zAg rfl rfl rfl ?_
     refine w_y rfl rfl rfl (zAx (v := _) rfl rfl rfl rfl) rfl ?_
     refine w_p (zAx (v := .bool _) rfl rfl rfl rfl) rfl (zAe (zAc (gd _ _ (zCh rfl rfl ?_))))
     refine zAa (zBa rfl rfl (zA4 (i := 1) (v := .int _ _) (vs := [_]) zAb sizeOf3 rfl rfl rfl rfl rfl (by simp [Value.oneCell']) g5 rfl (zNl rfl) (fun jc gI => ?_)))
     refine zAe (zAl (zCu (_ :: []) gI.tail ?_))
     first
       | (show [_] = [_]; rw [zC4 hi2, ← hl, ← zJb (p := p) (l := l) (day := (d : Int)) (n := toldUpto p d i) (by assumption) (by omega)]; rfl)
       | (show [_] = [_]; rw [zC4 hi2, ← hl, ← told_no (p := p) (l := l) (day := (d : Int)) (n := toldUpto p d i) (by omega)])
    try simp only [zS] at gf
    refine w_y rfl rfl rfl (zA1 rfl rfl) rfl ?_
    refine w_y rfl rfl rfl (zAj isAgg3 g5 rfl rfl (zAh (i := 1) (vs := [_]) rfl rfl)) rfl ?_
    refine w_y rfl rfl rfl (zCl rfl rfl rfl rfl) rfl ?_
    refine w_y rfl rfl rfl (zBd (v := .bool _) rfl rfl rfl rfl) rfl ?_
    refine w_p (zAx (v := .bool _) rfl rfl rfl rfl) rfl (zAe (zAc (gd _ _ (zAy rfl rfl (fun gg => ?_) (fun gg => ?_)))))
    ·
     try simp only [zS] at gg
     refine zAa (zBa rfl rfl (zA4 (i := 1) (v := .int _ _) (vs := [_]) zAb sizeOf3 rfl rfl rfl rfl rfl (by simp [Value.oneCell']) g5 rfl (zNl rfl) (fun jd gJ => ?_)))
     refine zAe (zAl (zCu (_ :: []) gJ.tail ?_))
     first
       | (show [_] = [_]; rw [zC4 hi2, ← hl, ← zJb (p := p) (l := l) (day := (d : Int)) (n := toldUpto p d i) (by assumption) (by omega)]; rfl)
       | (show [_] = [_]; rw [zC4 hi2, ← hl, ← told_no (p := p) (l := l) (day := (d : Int)) (n := toldUpto p d i) (by omega)])
    try simp only [zS] at gg
    refine zAv (zAl (zCu (_ :: []) g5.tail ?_))
    first
      | (show [_] = [_]; rw [zC4 hi2, ← hl, ← zJb (p := p) (l := l) (day := (d : Int)) (n := toldUpto p d i) (by assumption) (by omega)]; rfl)
      | (show [_] = [_]; rw [zC4 hi2, ← hl, ← told_no (p := p) (l := l) (day := (d : Int)) (n := toldUpto p d i) (by omega)])
   try simp only [zS] at ge
   refine zAg rfl rfl rfl ?_
   refine zAg rfl rfl rfl ?_
   refine zAg rfl rfl rfl ?_
   refine zBe rfl rfl rfl ?_
   refine zBe rfl rfl rfl ?_
   refine zBe rfl rfl rfl ?_
   refine zAg rfl rfl rfl ?_
   refine w_p (zBd (v := _) rfl rfl rfl rfl) rfl (zAe (zAc (gd _ _ (zCc rfl rfl ?_))))
   refine zAv (zAl (zCu (_ :: []) g5.tail ?_))
   first
     | (show [_] = [_]; rw [zC4 hi2, ← hl, ← zJb (p := p) (l := l) (day := (d : Int)) (n := toldUpto p d i) (by assumption) (by omega)]; rfl)
     | (show [_] = [_]; rw [zC4 hi2, ← hl, ← told_no (p := p) (l := l) (day := (d : Int)) (n := toldUpto p d i) (by omega)])
  ·
   intro bd Bx je hJ hs
   subst hJ
   replace hs := (show St _ _ (_ :: _ :: _ :: _ :: _ :: _ :: _ :: _ :: _ :: F) from hs)
   refine zAl (zAc (gB _ _ (zAf (fun jf gK => (zAf (fun jg gL => (zAa (w_p (zAj isAgg3 hs rfl rfl (zAh (i := 1) (vs := [_]) rfl rfl)) rfl ?_))))))))
   refine w_p (zCl rfl rfl rfl rfl) rfl (zAe (zAc (gL _ _ (zAy rfl rfl (fun gh => ?_) (fun gh => ?_)))))
   ·
    try simp only [zS] at gh
    refine zAf (fun jh gM => (zAa (zBg rfl rfl (zBg rfl rfl (zAe (zAc (gM _ _ (zA2 (zAk (zEw (i := 0) (l := [.tmp 4, .tmp 5]) (vs := [_,_]) hs rfl rfl (fun ji g8 => ⟨⟨⟨rfl, (rfl : _ = Value.int _ _)⟩, ⟨rfl, (rfl : _ = Value.int _ _)⟩, trivial⟩, ?_⟩)))))))))))
    first
      | (obtain ⟨e1, e2⟩ := told_e1 (p := p) (z := z) (by assumption); rw [e1, e2]; exact ⟨rfl, g8.tail.tail.tail.tail.tail.tail.tail.tail.tail⟩)
      | (obtain ⟨e1, e2⟩ := told_e2 (p := p) (z := z) (by assumption) (by assumption); rw [e1, e2]; exact ⟨rfl, g8.tail.tail.tail.tail.tail.tail.tail.tail.tail⟩)
      | (have hall := zDj (p := p) (d := d) (i := (((allC d p.farms.length).map pad).map ia).length) (by simp); obtain ⟨e1, e2⟩ := told_e3 (p := p) (d := d) (by assumption) hdo (by omega); rw [e1, e2]; exact ⟨rfl, g8.tail.tail.tail.tail.tail.tail.tail.tail.tail⟩)
      | (have hall := zDj (p := p) (d := d) (i := (((allC d p.farms.length).map pad).map ia).length) (by simp); obtain ⟨e1, e2⟩ := told_ok (p := p) (d := d) (by assumption) hdo (by omega); rw [e1, e2, ← hall]; exact ⟨rfl, g8.tail.tail.tail.tail.tail.tail.tail.tail.tail⟩)
   try simp only [zS] at gh
   refine zAv (zAc (gK _ _ (zAf (fun jj gN => (zAa (w_p (zAj isAgg3 hs rfl rfl (zAh (i := 1) (vs := [_]) rfl rfl)) rfl (zBl rfl rfl (zBg rfl rfl (zAe (zAc (gN _ _ (zA2 (zEw (i := 0) (l := [.tmp 4, .tmp 5]) (vs := [_,_]) hs rfl rfl (fun jk g9 => ⟨⟨⟨rfl, (rfl : _ = Value.int _ _)⟩, ⟨rfl, (rfl : _ = Value.int _ _)⟩, trivial⟩, ?_⟩))))))))))))))
   first
     | (obtain ⟨e1, e2⟩ := told_e1 (p := p) (z := z) (by assumption); rw [e1, e2]; exact ⟨rfl, g9.tail.tail.tail.tail.tail.tail.tail.tail.tail⟩)
     | (obtain ⟨e1, e2⟩ := told_e2 (p := p) (z := z) (by assumption) (by assumption); rw [e1, e2]; exact ⟨rfl, g9.tail.tail.tail.tail.tail.tail.tail.tail.tail⟩)
     | (have hall := zDj (p := p) (d := d) (i := (((allC d p.farms.length).map pad).map ia).length) (by simp); obtain ⟨e1, e2⟩ := told_e3 (p := p) (d := d) (by assumption) hdo (by omega); rw [e1, e2]; exact ⟨rfl, g9.tail.tail.tail.tail.tail.tail.tail.tail.tail⟩)
     | (have hall := zDj (p := p) (d := d) (i := (((allC d p.farms.length).map pad).map ia).length) (by simp); obtain ⟨e1, e2⟩ := told_ok (p := p) (d := d) (by assumption) hdo (by omega); rw [e1, e2, ← hall]; exact ⟨rfl, g9.tail.tail.tail.tail.tail.tail.tail.tail.tail⟩)
  intro _ _ _ _ hJ
  exact hJ.elim

end Go.Proofs.Cb
set_option maxRecDepth 20000
namespace Go.Proofs.Cb
open Go.Proofs.Tryz
open Go.Rt Go.Rt.Ca
attribute [local irreducible] WL WC Con Yd At Ats Sl Agree DW

theorem zJk {p : Port} (h : ¬ (check p).2.2 = 0) : earlyD p = (0,0, (check p).2.2) := by unfold earlyD; rw [if_neg h]
theorem zJj {p : Port} (h : (check p).2.2 = 0) (h2 : (doC p).isEmpty = false) : earlyD p = (0,0,2) := by unfold earlyD; rw [if_pos h, if_neg (by rw [h2]; simp)]
theorem early_go {p : Port} (h : (check p).2.2 = 0) (h2 : (doC p).isEmpty = true) : earlyD p = earlyFrom p 0 (p.farms.drop 0) := by
  unfold earlyD; rw [if_pos h, if_pos h2]; rfl
theorem zGy {p : Port} {i n : Nat} {k : Int} (h : (doC (kept p i k)).isEmpty = false) : earlyK p i k (n + 1) = some k := by
  rw [earlyK, if_pos (by unfold canAt; rw [h]; rfl)]
theorem earlyK_no {p : Port} {i n : Nat} {k : Int} (h : (doC (kept p i k)).isEmpty = true) : earlyK p i k (n + 1) = earlyK p i (k + 1) n := by
  rw [earlyK]; rw [if_neg (by unfold canAt; rw [h]; simp)]
theorem own_some {t : TypeId} {sz n : Nat} {v : Value} {xs : List Value} {B : List (Nat × Obj)} (h : Rt.Own v t sz n xs B) (hn : 0 < n) : ∃ b cap cs, v = .slice (some ⟨b, 0, none⟩) n cap ∧ B = [(b, blk t cs)] ∧ n ≤ cap ∧ cs.length = cap * sz ∧ cs.take (n * sz) = xs := by
  rcases h.2 with ⟨_, h0, _⟩ | ⟨b, cap, cs, h1, h2, h3, _, h5, h6⟩
  · omega
  · exact ⟨b, cap, cs, h1, h2, h3, h5, h6⟩
theorem zG7 {w0 : World} {L : List (Nat × Obj)} {i b n : Nat} {t : TypeId} {cs : List Value} {l : List Farm} (hi : L[i]? = some (b, blk t cs)) (hn : l.length = n) (h : cs.take (n * 6) = (rows l).flatten) : Sl w0 L (some ⟨b, 0, none⟩) 6 (rows l) :=
  zBp hi (by intro row hr; obtain ⟨f, _, rfl⟩ := List.mem_map.1 hr; rfl) (by simpa [rows, hn] using h)
theorem c23 {w0 w : World} {F : List (Nat × Obj)} (p : Port) (a : Option Addr) (c : Nat) (hl3 : p.farms.length ≤ 9223372036854775807) (hc : p.farms.length ≤ c) (ha : Sl w0 F a 6 (rows p.farms)) (hnm : ∀ f ∈ p.farms, f.name.size ≤ 9223372036854775807)  (hs : St w0 w F) :
  Con Tryz.prog 23 [.agg (p.cells a c).toArray] w fun v w' => v = .tuple #[.int .i64 (earlyD p).1, .int .i64 (earlyD p).2.1, .int .i64 (earlyD p).2.2] ∧ St w0 w' F := by
  refine zAu (n := 65) func23 rfl rfl (zNl rfl) ?_
  refine zAf (fun K2 gi => (zAa (zCa (v := .agg #[.int _ _, .int _ _, .int _ _, .slice _ _ _]) (cs := [_,_,_,_]) zAb rfl rfl rfl hs (fun b3 w4 ge => ?_))))
  refine zBg rfl rfl (zBg rfl rfl (zBg rfl rfl (zAe (zAc (gi _ _ (zAf (fun K7 gj => (zAa (w_p (zA7 (vs := [_,_,_,_]) isAgg26 sizeOf26 ge rfl rfl (zAh (i := 0) (vs := [_,_,_,_]) rfl rfl)) rfl ?_)))))))))
  refine zAs zAb call49 rfl rfl rfl rfl (c49 p _ _ (by omega) (by omega) ha.cons hnm ge) ?_
  rintro _ w9 ⟨rfl, g4⟩
  refine w_p (zAi (v := .tuple _) rfl rfl) rfl (w_p (zAn (v := .int _ _) rfl rfl rfl) rfl (w_p (zAn (v := .int _ _) rfl rfl rfl) rfl (w_p (zAn (v := .int _ _) rfl rfl rfl) rfl (zBl rfl rfl (zAe (zAc (gj _ _ (zAf (fun gK gk => (zAz ?_))))))))))
  refine zAf (fun gL gl => (zAa (zBa rfl rfl (w_p (zCt rfl rfl rfl rfl) rfl (w_p (zAm (v := .bool _) rfl rfl) rfl (zAe (zAc (gl _ _ (zAy rfl rfl (fun g7 => ?_) (fun g7 => ?_))))))))))
  ·
   try simp only [zS] at g7
   refine zAf (fun gM gm => (zAa (zBa rfl rfl (zBg rfl rfl (zBg rfl rfl (zBl rfl rfl (zAe (zAc (gm _ _ (zA2 (zAt (zAk (zA9 (l := [.tmp 2, .tmp 3, .tmp 4]) (vs := [_,_,_]) rfl ⟨⟨rfl, (rfl : _ = Value.int _ _)⟩, ⟨rfl, (rfl : _ = Value.int _ _)⟩, ⟨rfl, (rfl : _ = Value.int _ _)⟩, trivial⟩ ?_)))))))))))))
   first
     | exact ⟨tup3 (zJk (by assumption)), g4.tail⟩
     | exact ⟨tup3 (zJj (by assumption) (by assumption)), g4.tail⟩
     | exact ⟨tup3 (hinv.trans (by rw [List.drop_of_length_le (by omega)]; rfl)), g4.tail⟩
     | exact ⟨tup3 (hinv.trans (by rw [zFl hi2, hk, show (9 - kk).toNat = (9 - (kk + 1)).toNat + 1 by omega, zGy (by assumption)])), g4.tail⟩
  try simp only [zS] at g7
  refine zAf (fun gN gn => ?_)
  have hok := check_ok (by assumption)
  have hlen3 := hok.len
  refine zAa (w_p (zA7 (vs := [_,_,_,_]) isAgg26 sizeOf26 g4 rfl rfl (zAh (i := 0) (vs := [_,_,_,_]) rfl rfl)) rfl (zAs zAb call50 rfl rfl rfl rfl (c50 p _ _ g4) ?_))
  rintro _ gO ⟨m, pb, rfl, go⟩
  refine zAs zAb call56 rfl rfl rfl rfl (c56 (F := _ :: _ :: _ :: F) p _ _ m pb (zAh (i := 1) (vs := [_,_,_,_,_]) rfl rfl) ha.cons.cons.cons hok go) ?_
  rintro _ gP ⟨rfl, g5⟩
  refine w_p (zAm (v := .bool _) rfl rfl) rfl (zAe (zAc (gn _ _ (zAy rfl rfl (fun g8 => ?_) (fun g8 => ?_)))))
  ·
   try simp only [zS] at g8
   refine zAf (fun gQ gp => (zAa (zBg rfl rfl (zBg rfl rfl (zBg rfl rfl (zAe (zAc (gp _ _ (zA2 (zAt (zAk (zA9 (l := [.tmp 2, .tmp 3, .tmp 4]) (vs := [_,_,_]) rfl ⟨⟨rfl, (rfl : _ = Value.int _ _)⟩, ⟨rfl, (rfl : _ = Value.int _ _)⟩, ⟨rfl, (rfl : _ = Value.int _ _)⟩, trivial⟩ ?_))))))))))))
   first
     | exact ⟨tup3 (zJk (by assumption)), g5.tail.tail.tail⟩
     | exact ⟨tup3 (zJj (by assumption) (by assumption)), g5.tail.tail.tail⟩
     | exact ⟨tup3 (hinv.trans (by rw [List.drop_of_length_le (by omega)]; rfl)), g5.tail.tail.tail⟩
     | exact ⟨tup3 (hinv.trans (by rw [zFl hi2, hk, show (9 - kk).toNat = (9 - (kk + 1)).toNat + 1 by omega, zGy (by assumption)])), g5.tail.tail.tail⟩
  try simp only [zS] at g8
  refine zAv (zAl (zAc (gk _ _ (zAf (fun gR gq => (zAf (fun gT gr => (zAa (w_p (zAd (o := 3) (i := 2) underlying26 rfl sizeOf24 rfl rfl rfl) rfl ?_)))))))))
  refine w_p (zAj isAgg24 g5 rfl rfl (zAh (i := 2) (vs := [_]) rfl rfl)) rfl (w_p (zBm underlying24 rfl rfl) rfl (w_p (zAi (v := _) rfl rfl) rfl (zAe (zAc (gr _ _ (zAz ?_))))))
  refine zB3 [2,3,4,5,6,7,25,26,27,28,29,30,31,32,33,34,35,36,37,38,39,40,41,42,43,44,45,46,47,48,49,50,51,52,53,54,55,56,57,58,59,60,61,62,63,64] [25] (fun k vs w => ∃ i : Nat, vs = [.int .i64 i] ∧ i ≤ p.farms.length ∧ k = p.farms.length - i ∧ earlyD p = earlyFrom p i (p.farms.drop i) ∧ St w0 w ((b3, blk 26 (p.cells a c)) :: F)) (p.farms.length) ?_ ?_
  ·
   exact ⟨0, rfl, by omega, by omega, early_go (by assumption) (by assumption), g5.tail.tail⟩
  intro k vs μ gU hI gV gt
  obtain ⟨i, rfl, hia, rfl, hinv, hs⟩ := hI
  refine zAf (fun gW gu => (zAa (w_p (zCl rfl rfl rfl rfl) rfl (zAe (zAc (gu _ _ (zAf (fun gX gv => (zAy rfl rfl (fun g9 => ?_) (fun g9 => ?_))))))))))
  ·
   try simp only [zS] at g9
   refine zAv (zAc (gv _ _ (zAf (fun gY gw => (zAz ?_)))))
   refine zAf (fun gZ gx => ?_)
   have hi2 : i < p.farms.length := by omega
   have hfo := hok.farm _ (List.getElem_mem hi2)
   unfold Farm.Ok at hfo
   refine zAa (zBa rfl rfl (zBl rfl rfl (zAe (zAc (gx _ _ (zAf (fun hD gy => (zAa (w_p (zA7 (vs := [_,_,_,_]) isAgg26 sizeOf26 hs rfl rfl (zAh (i := 0) (vs := [_,_,_,_]) rfl rfl)) rfl ?_)))))))))
   refine zBb (cs := [_,_,_,_]) zAb zeroValue26 rfl hs (fun ga hO gz => ?_)
   refine zA4 (i := 0) (v := .agg #[.int _ _, .int _ _, .int _ _, .slice _ _ _]) (vs := [_,_,_,_]) zAb sizeOf26 rfl rfl rfl rfl rfl (by simp [Value.oneCell']) gz rfl (zNl rfl) (fun hP gf => ?_)
   refine zAe (zAc (gy _ _ (zAf (fun hX gA => (zAa (w_p (zAd (o := 3) (i := 2) underlying26 rfl sizeOf24 rfl rfl rfl) rfl (w_p (zAj isAgg24 gf rfl rfl (zAh (i := 1) (vs := [_]) rfl rfl)) rfl ?_)))))))
   refine zAs zAb call57 rfl rfl rfl rfl (c57 _ _ p.farms (by omega) (by omega) ha.cons.cons gf) ?_
   rintro _ hY ⟨BC, hown, gb⟩
   obtain ⟨bc, cap, cs0, rfl, rfl, hcap, hcl0, hcs0⟩ := own_some hown (by omega)
   replace gb := (show St _ _ (_ :: _ :: _ :: F) from gb)
   refine w_p (zAd (o := 3) (i := 2) underlying26 rfl sizeOf24 rfl rfl rfl) rfl (zA4 (i := 1) (v := .slice _ _ _) (vs := [_]) zAb sizeOf24 rfl rfl rfl rfl rfl (by simp [Value.oneCell']) gb rfl (zNl rfl) (fun j0 gg => ?_))
   refine zAe (zAc (gA _ _ (zAf (fun j1 gB => (zAa (w_p (zAd (o := 3) (i := 2) underlying26 rfl sizeOf24 rfl rfl rfl) rfl (w_p (zAj isAgg24 gg rfl rfl (zAh (i := 1) (vs := [_]) rfl rfl)) rfl ?_)))))))
   refine zBa rfl rfl (w_p (zBc underlying24 sizeOf46 rfl rfl rfl rfl (i := _) rfl (by omega)) rfl (w_p (zAm (v := .pointer _) rfl rfl) rfl (zAe (zAc (gB _ _ (zAz ?_))))))
   refine zB3 [2,3,4,37,38,39,40,41,42,43,44,45,46,47,48,49,50,51,52,53,54,55,56,57,58,59,60,61,62,63] [] (fun k vs w => ∃ (kk : Int) (cs : List Value), vs = [] ∧ p.farms[i].keep ≤ kk ∧ kk ≤ 9 ∧ k = (9 - kk).toNat ∧ cs.length = cap * 6 ∧ cs.take (p.farms.length * 6) = (rows (setKeep p.farms i kk)).flatten ∧ earlyK p i (p.farms[i].keep + 1) (9 - p.farms[i].keep).toNat = earlyK p i (kk + 1) (9 - kk).toNat ∧ St w0 w ((bc, blk 46 cs) :: (ga, blk 26 [.int .i64 p.hold, .int .i64 p.clo, .int .i64 p.chi, .slice (some ⟨bc, 0, none⟩) p.farms.length cap]) :: (b3, blk 26 (p.cells a c)) :: F)) ((9 - p.farms[i].keep).toNat) ?_ ?_
   ·
    exact ⟨p.farms[i].keep, cs0, rfl, by omega, by omega, rfl, hcl0, (by rw [setKeep_same hi2]; exact hcs0), rfl, gg⟩
   intro k vs μ j2 hI j3 gC
   obtain ⟨kk, cs, rfl, hk0, hk9, rfl, hcl, hcs, hk, hs⟩ := hI
   have hrow := (sl_farm (zG7 (w0 := w0) (L := (bc, blk 46 cs) :: (ga, blk 26 [.int .i64 p.hold, .int .i64 p.clo, .int .i64 p.chi, .slice (some ⟨bc, 0, none⟩) p.farms.length cap]) :: (b3, blk 26 (p.cells a c)) :: F) (i := 0) rfl (zDc _ _ _) hcs) (i := i) (by rw [zDc]; exact hi2))
   obtain ⟨bx, ox, hbx, hrow2⟩ := hrow
   cases hbx
   rw [zHm _ hi2] at hrow2
   refine zAf (fun j4 gD => (zAf (fun j5 gE => (zAa (w_p (zAi (v := .pointer _) rfl rfl) rfl (w_p (zBi rfl rfl) rfl (w_p (zAd (o := 3) (i := 3) underlying46 rfl sizeOf3 rfl rfl rfl) rfl ?_)))))))
   refine w_p (zAj isAgg3 hs rfl rfl (show Ats _ _ _ _ [_] from Ats.part hrow2 3 1)) rfl (w_p (zCl rfl rfl rfl rfl) rfl (zAe (zAc (gE _ _ (zAy rfl rfl (fun gc => ?_) (fun gc => ?_))))))
   ·
    try simp only [zS] at gc
    refine zAv (zAc (gD _ _ (zAz ?_)))
    refine zAf (fun j6 gF => (zAa (w_p (zAi (v := .pointer _) rfl rfl) rfl (w_p (zBi rfl rfl) rfl (w_p (zAd (o := 3) (i := 3) underlying46 rfl sizeOf3 rfl rfl rfl) rfl (w_p (zAj isAgg3 hs rfl rfl (show Ats _ _ _ _ [_] from Ats.part hrow2 3 1)) rfl ?_))))))
    refine w_p (zBj rfl rfl rfl rfl (by omega) (by omega)) rfl (w_p (zBi rfl rfl) rfl (w_p (zAd (o := 3) (i := 3) underlying46 rfl sizeOf3 rfl rfl rfl) rfl (zA4 (i := 0) (v := .int _ _) (vs := [_]) zAb sizeOf3 rfl rfl rfl rfl rfl (by simp [Value.oneCell']) hs rfl (show 0 + i * 6 + 3 + 1 ≤ cs.length by omega) (fun j7 g6 => ?_))))
    have hcs2 : (cs.set (i * 6 + 3) (.int .i64 (kk + 1))).take (p.farms.length * 6) = (rows (setKeep p.farms i (kk + 1))).flatten := by rw [← setKeep_set (k := kk)]; exact cells_set (zDc _ _ _) hcs hi2
    have hcl2 : (cs.set (i * 6 + 3) (.int .i64 (kk + 1))).length = cap * 6 := by rw [List.length_set]; exact hcl
    replace g6 := (show St _ _ ((bc, blk 46 (cs.set (i * 6 + 3) (.int .i64 (kk + 1)))) :: _ :: _ :: F) from (by have h6 := g6; simp only [setMany, Nat.zero_add] at h6; exact h6))
    refine zAe (zAc (gF _ _ (zAf (fun j8 gG => (zAa (w_p (zA7 (vs := [_,_,_,_]) isAgg26 sizeOf26 g6 rfl rfl (zAh (i := 1) (vs := [_,_,_,_]) rfl rfl)) rfl (zAs zAb call50 rfl rfl rfl rfl (c50 p _ _ g6) ?_)))))))
    rintro _ j9 ⟨m, pb, rfl, gH⟩
    refine zAs zAb call56 rfl rfl rfl rfl (c56 (F := _ :: _ :: _ :: _ :: _ :: F) (kept p i (kk + 1)) (some ⟨bc, 0, none⟩) cap m pb (show Ats w0 _ pb 0 [.int .i64 p.hold, .int .i64 p.clo, .int .i64 p.chi, .slice _ (setKeep p.farms i (kk + 1)).length cap, .map (some m)] from by rw [zDc]; exact zAh (i := 1) (vs := [_,_,_,_,_]) rfl rfl) (zG7 (i := 2) rfl (zDc _ _ _) hcs2) (kept_ok hok hi2 (by omega) (by omega)) gH) ?_
    rintro _ ja ⟨rfl, gh⟩
    refine zAe (zAc (gG _ _ (zAy rfl rfl (fun gd => ?_) (fun gd => ?_))))
    ·
     try simp only [zS] at gd
     refine zAf (fun jb gI => ?_)
     have hrow := (sl_farm (zG7 (w0 := w0) (L := (bc, blk 46 (cs.set (i * 6 + 3) (.int .i64 (kk + 1)))) :: (ga, blk 26 [.int .i64 p.hold, .int .i64 p.clo, .int .i64 p.chi, .slice (some ⟨bc, 0, none⟩) p.farms.length cap]) :: (b3, blk 26 (p.cells a c)) :: F) (i := 0) rfl (zDc _ _ _) hcs2) (i := i) (by rw [zDc]; exact hi2))
     obtain ⟨bx, ox, hbx, hrow2⟩ := hrow
     cases hbx
     rw [zHm _ hi2] at hrow2
     obtain ⟨by_, oy, rfl, hfar⟩ := sl_farm ha hi2
     refine zCs [] [(0,0),(1,0),(2,0),(3,0),(4,1),(5,0),(6,1),(7,0),(8,0),(9,0),(10,1),(11,0),(12,0),(13,0),(14,0)] zCg (by kernel_rfl) gh (fun jc g0 => ?_)
     refine d_w rfl (fun _ => zA1 rfl rfl) rfl ?_
     refine d_w rfl (fun _ => zAi (v := .pointer _) rfl rfl) rfl ?_
     refine d_w rfl (fun _ => zBi rfl rfl) rfl ?_
     refine d_w rfl (fun _ => zAd (o := 3) (i := 3) underlying46 rfl sizeOf3 rfl rfl rfl) rfl ?_
     refine zBh rfl zAb rfl g0 (fun _ hq => (zAj isAgg3 hq.tail.tail rfl rfl (show Ats _ _ _ _ [_] from Ats.part hrow2 3 1))) ?_
     refine d_w rfl (fun _ => zAd (o := 3) (i := 2) underlying26 rfl sizeOf24 rfl rfl rfl) rfl ?_
     refine zBh rfl zAb rfl g0 (fun _ hq => (zAj isAgg24 hq rfl rfl (zAh (i := 4) (vs := [_]) rfl rfl))) ?_
     refine d_w rfl (fun _ => zA1 rfl rfl) rfl ?_
     refine d_w rfl (fun _ => zBc underlying24 sizeOf46 rfl rfl rfl rfl (i := _) rfl (by omega)) rfl ?_
     refine d_w rfl (fun _ => zAd (o := 3) (i := 3) underlying46 rfl sizeOf3 rfl rfl rfl) rfl ?_
     refine zBh rfl zAb rfl g0 (fun _ hq => (zAj isAgg3 hq.tail.tail.tail.tail.tail rfl rfl (show Ats _ _ _ _ [_] from Ats.part hfar 3 1))) ?_
     refine d_w rfl (fun _ => zEi rfl rfl rfl rfl (by omega) (by omega)) rfl ?_
     refine d_w rfl (fun _ => zD3 rfl rfl) rfl ?_
     refine d_w rfl (fun _ => zD3 rfl rfl) rfl ?_
     refine d_w rfl (fun _ => zAm (v := _) rfl rfl) rfl ?_
     refine zB0 ?_
     refine zAc (gI _ _ (zA2 (zAt (zAk (zAt (zAt (zAk (zAk (zAt (zAk (zA9 (l := [.tmp 2, .tmp 3, .tmp 4]) (vs := [_,_,_]) rfl ⟨⟨rfl, (rfl : _ = Value.int _ _)⟩, ⟨rfl, (rfl : _ = Value.int _ _)⟩, ⟨rfl, (rfl : _ = Value.int _ _)⟩, trivial⟩ ?_)))))))))))
     first
       | exact ⟨tup3 (zJk (by assumption)), g0.tail.tail.tail.tail.tail⟩
       | exact ⟨tup3 (zJj (by assumption) (by assumption)), g0.tail.tail.tail.tail.tail⟩
       | exact ⟨tup3 (hinv.trans (by rw [List.drop_of_length_le (by omega)]; rfl)), g0.tail.tail.tail.tail.tail⟩
       | exact ⟨tup3 (hinv.trans (by rw [zFl hi2, hk, show (9 - kk).toNat = (9 - (kk + 1)).toNat + 1 by omega, zGy (by assumption)])), g0.tail.tail.tail.tail.tail⟩
    try simp only [zS] at gd
    refine zAv (zAl (zAc (gC _ _ (nxI ((9 - (kk + 1)).toNat) (by omega) ?_))))
    exact ⟨kk + 1, _, rfl, by omega, by omega, rfl, hcl2, hcs2, (by rw [hk, show (9 - kk).toNat = (9 - (kk + 1)).toNat + 1 by omega]; exact earlyK_no (by assumption)), gh.tail.tail⟩
   try simp only [zS] at gc
   refine zBq (zAo (zAo (zA8 (zAl (zAc (gw _ _ (zAa (w_p (zBj rfl rfl rfl rfl (by omega) (by omega)) rfl (zBa rfl rfl (zAe (zAc (gt _ _ (nxI (p.farms.length - (i + 1)) (by omega) ?_)))))))))))))
   exact ⟨i + 1, rfl, by omega, rfl, (by rw [hinv, zFl hi2, hk, show (9 - kk).toNat = 0 by omega]; rfl), hs.tail.tail⟩
  try simp only [zS] at g9
  refine zBq (zAo (zAo (zA8 (zAc (gq _ _ (zAf (fun jd gJ => (zAa (zBg rfl rfl (zBg rfl rfl (zBg rfl rfl (zAe (zAc (gJ _ _ (zA2 (zA9 (l := [.tmp 2, .tmp 3, .tmp 4]) (vs := [_,_,_]) rfl ⟨⟨rfl, (rfl : _ = Value.int _ _)⟩, ⟨rfl, (rfl : _ = Value.int _ _)⟩, ⟨rfl, (rfl : _ = Value.int _ _)⟩, trivial⟩ ?_))))))))))))))))
  first
    | exact ⟨tup3 (zJk (by assumption)), hs.tail⟩
    | exact ⟨tup3 (zJj (by assumption) (by assumption)), hs.tail⟩
    | exact ⟨tup3 (hinv.trans (by rw [List.drop_of_length_le (by omega)]; rfl)), hs.tail⟩
    | exact ⟨tup3 (hinv.trans (by rw [zFl hi2, hk, show (9 - kk).toNat = (9 - (kk + 1)).toNat + 1 by omega, zGy (by assumption)])), hs.tail⟩

end Go.Proofs.Cb
set_option maxRecDepth 20000
namespace Go.Proofs.Cb
open Go.Proofs.Tryz
open Go.Rt Go.Rt.Ca
attribute [local irreducible] WL WC Con Yd At Ats Sl Agree DW
theorem Try_CR_fb8 (x0 : Int) (x1 : Int) (w : World) : (Instr.build 23 [(0, .int .i64 x0),(1, .int .i64 x1)].toArray).run Tryz.prog w = .ok (.agg #[.int .i64 x0, .int .i64 x1]) w := by kernel_rfl
theorem zI0 (x0 : ByteArray) (x1 : Int) (x2 : Int) (x3 : Int) (x4 : Int) (x5 : Int) (w : World) : (Instr.build 46 [(0, .string x0),(1, .int .i64 x1),(2, .int .i64 x2),(3, .int .i64 x3),(4, .agg #[.int .i64 x4, .int .i64 x5])].toArray).run Tryz.prog w = .ok (.agg #[.string x0, .int .i64 x1, .int .i64 x2, .int .i64 x3, .int .i64 x4, .int .i64 x5]) w := by kernel_rfl
theorem Try_CR_fb10 (x0 : ByteArray) (x1 : Int) (x2 : Int) (x3 : Int) (x4 : Int) (x5 : Int) (x6 : ByteArray) (x7 : Int) (x8 : Int) (x9 : Int) (x10 : Int) (x11 : Int) (x12 : ByteArray) (x13 : Int) (x14 : Int) (x15 : Int) (x16 : Int) (x17 : Int) (w : World) : (Instr.buildSlice 24 3 [(0, .agg #[.string x0, .int .i64 x1, .int .i64 x2, .int .i64 x3, .int .i64 x4, .int .i64 x5]),(1, .agg #[.string x6, .int .i64 x7, .int .i64 x8, .int .i64 x9, .int .i64 x10, .int .i64 x11]),(2, .agg #[.string x12, .int .i64 x13, .int .i64 x14, .int .i64 x15, .int .i64 x16, .int .i64 x17])].toArray).run Tryz.prog w = .ok (.slice (some ⟨w.heap.size, 0, none⟩) 3 3) (w.alloc (Go.Rt.blk 46 [.string x0, .int .i64 x1, .int .i64 x2, .int .i64 x3, .int .i64 x4, .int .i64 x5, .string x6, .int .i64 x7, .int .i64 x8, .int .i64 x9, .int .i64 x10, .int .i64 x11, .string x12, .int .i64 x13, .int .i64 x14, .int .i64 x15, .int .i64 x16, .int .i64 x17])) := by kernel_rfl
theorem Try_CR_fb11 (x0 : Int) (x1 : Int) (x2 : Int) (x3 : Option Addr) (l3 c3 : Nat) (w : World) : (Instr.build 26 [(0, .int .i64 x0),(1, .agg #[.int .i64 x1, .int .i64 x2]),(2, .slice x3 l3 c3)].toArray).run Tryz.prog w = .ok (.agg #[.int .i64 x0, .int .i64 x1, .int .i64 x2, .slice x3 l3 c3]) w := by kernel_rfl
theorem gen_Z {w0 w : World} {L : List (Nat × Obj)} (hs : St w0 w L) : ∃ Z, Z = L ∧ St w0 w Z := ⟨L, rfl, hs⟩
theorem zGz {k : FuncId} {args : List Value} {w : World} {x : Bool} {S : World → Prop} (h : Con Tryz.prog k args w fun v w' => v = .bool x ∧ S w') (hx : x = true) : Con Tryz.prog k args w fun v w' => v = .bool true ∧ S w' := by subst hx; exact h
theorem c26 {w0 w : World} {F : List (Nat × Obj)} (x y : Int) (hs : St w0 w F) :
  Con Tryz.prog 26 [.int .i64 x, .int .i64 y] w fun v w' => v = .agg #[.int .i64 x, .int .i64 y] ∧ St w0 w' F := by
  refine zAu (n := 8) func26 rfl rfl (zNl rfl) ?_
  refine zAf (fun K2 g4 => (zAa (zBb (cs := [_,_]) zAb zeroValue23 rfl hs (fun b3 w4 g5 => ?_))))
  refine zAe (zAc (g4 _ _ (zAf (fun K7 g6 => (zAa (zBa rfl rfl (zBa rfl rfl (w_p (zBy (ps := [(0, _),(1, _)]) (pv := [(0, .int _ _),(1, .int _ _)]) rfl rfl (fun w => Try_CR_fb8 _ _ w)) rfl ?_))))))))
  refine zA4 (i := 0) (v := .agg #[.int _ _, .int _ _]) (vs := [_,_]) zAb sizeOf23 rfl rfl rfl rfl rfl (by simp [Value.oneCell']) g5 rfl (zNl rfl) (fun w8 g0 => ?_)
  refine zAe (zAc (g6 _ _ (zA2 (zA9 (l := [.cell 4 23]) (vs := [_]) rfl ⟨⟨rfl, _, rfl, zCe (vs := [_,_]) isAgg23 sizeOf23 g0 (zAh (i := 0) (vs := [_,_]) rfl rfl)⟩, trivial⟩ ?_))))
  exact ⟨rfl, g0.tail⟩

theorem c18 {w0 w : World} {F : List (Nat × Obj)} (x : Int) (n : Nat) (hn : n ≤ 3) (hs : St w0 w F) :
  Con Tryz.prog 18 [.int .i64 x, .int .i64 (n : Int)] w fun v w' => ∃ b, v = .agg #[.int .i64 50, .int .i64 x, .int .i64 8, .slice (some ⟨b, 0, none⟩) n 3] ∧ St w0 w' ((b, blk 46 (rows [fAlto, fBajo, fCima]).flatten) :: F) := by
  refine zAu (n := 19) func18 rfl rfl (zNl rfl) ?_
  refine zAf (fun K2 g5 => (zAa (zBb (cs := [_,_,_,_]) zAb zeroValue26 rfl hs (fun b3 w4 g6 => ?_))))
  refine zAe (zAc (g5 _ _ (zAf (fun K7 g7 => (zAa (zAs zAb call26 rfl rfl rfl rfl (c26 _ _ g6) ?_))))))
  rintro _ w9 ⟨rfl, g8⟩
  refine w_p (zBy (ps := [(0, _),(1, _),(2, _),(3, _),(4, _)]) (pv := [(0, .string _),(1, .int _ _),(2, .int _ _),(3, .int _ _),(4, .agg #[.int _ _, .int _ _])]) rfl rfl (fun w => zI0 _ _ _ _ _ _ w)) rfl ?_
  refine zAs zAb call26 rfl rfl rfl rfl (c26 _ _ g8) ?_
  rintro _ ge ⟨rfl, g9⟩
  refine w_p (zBy (ps := [(0, _),(1, _),(2, _),(3, _),(4, _)]) (pv := [(0, .string _),(1, .int _ _),(2, .int _ _),(3, .int _ _),(4, .agg #[.int _ _, .int _ _])]) rfl rfl (fun w => zI0 _ _ _ _ _ _ w)) rfl ?_
  refine zAs zAb call26 rfl rfl rfl rfl (c26 _ _ g9) ?_
  rintro _ gf ⟨rfl, ga⟩
  refine w_p (zBy (ps := [(0, _),(1, _),(2, _),(3, _),(4, _)]) (pv := [(0, .string _),(1, .int _ _),(2, .int _ _),(3, .int _ _),(4, .agg #[.int _ _, .int _ _])]) rfl rfl (fun w => zI0 _ _ _ _ _ _ w)) rfl ?_
  refine zA0 (ps := [(0, _),(1, _),(2, _)]) (pv := [(0, .agg #[.string _, .int _ _, .int _ _, .int _ _, .int _ _, .int _ _]),(1, .agg #[.string _, .int _ _, .int _ _, .int _ _, .int _ _, .int _ _]),(2, .agg #[.string _, .int _ _, .int _ _, .int _ _, .int _ _, .int _ _])]) (cs := [_,_,_,_,_,_,_,_,_,_,_,_,_,_,_,_,_,_]) zAb rfl rfl (fun w => Try_CR_fb10 _ _ _ _ _ _ _ _ _ _ _ _ _ _ _ _ _ _ w) ga (fun gg gh gb => ?_)
  refine w_p (zAm (v := .slice _ _ _) rfl rfl) rfl (zAe (zAc (g7 _ _ (zAf (fun gi gc => (zCs [6] [(0,0),(2,0),(3,0),(4,0),(1,2),(5,0),(6,3)] zCg (by kernel_rfl) gb (fun gj gd => ?_)))))))
  refine d_w rfl (fun _ => zA1 rfl rfl) rfl ?_
  refine d_w rfl (fun _ => zAi (v := .slice _ _ _) rfl rfl) rfl ?_
  refine d_w rfl (fun _ => zA1 rfl rfl) rfl ?_
  refine d_w rfl (fun _ => zHi (l' := 0) (h' := n) underlying24 sizeOf46 rfl rfl rfl ⟨rfl, _,_, rfl, rfl⟩ (by omega) (by omega)) rfl ?_
  refine zC9 rfl ?_
  refine zAs zAb call26 rfl rfl rfl rfl (c26 _ _ gd) ?_
  rintro _ gk ⟨rfl, g0⟩
  refine zAe (qn ⟨g0, ?_⟩)
  refine d_w rfl (fun _ => zBy (ps := [(0, _),(1, _),(2, _)]) (pv := [(0, .int _ _),(1, .agg #[.int _ _, .int _ _]),(2, .slice _ _ _)]) rfl rfl (fun w => Try_CR_fb11 _ _ _ _ _ _ w)) rfl ?_
  refine zDt rfl ?_
  refine zA4 (i := 1) (v := .agg #[.int _ _, .int _ _, .int _ _, .slice _ _ _]) (vs := [_,_,_,_]) zAb sizeOf26 rfl rfl rfl rfl rfl (by simp [Value.oneCell']) g0 rfl (zNl rfl) (fun gl g4 => ?_)
  refine zAe (qn ?_)
  refine zB0 ?_
  refine zAc (gc _ _ (zA2 (zA9 (l := [.cell 4 26]) (vs := [_]) rfl ⟨⟨rfl, _, rfl, zCe (vs := [_,_,_,_]) isAgg26 sizeOf26 g4 (zAh (i := 1) (vs := [_,_,_,_]) rfl rfl)⟩, trivial⟩ ?_)))
  exact ⟨_, rfl, zFj (Y := [_]) g4⟩

end Go.Proofs.Cb
set_option maxRecDepth 20000
namespace Go.Proofs.Cb
open Go.Proofs.Tryz
open Go.Rt Go.Rt.Ca
attribute [local irreducible] WL WC Con Yd At Ats Sl Agree DW
theorem zIz (x0 : Int) (x1 : Int) (x2 : Int) (w : World) : (Instr.buildSlice 34 3 [(0, .int .i64 x0),(1, .int .i64 x1),(2, .int .i64 x2)].toArray).run Tryz.prog w = .ok (.slice (some ⟨w.heap.size, 0, none⟩) 3 3) (w.alloc (Go.Rt.blk 3 [.int .i64 x0, .int .i64 x1, .int .i64 x2])) := by kernel_rfl
theorem Try_CS_fb9 (x0 : Int) (x1 : Int) (x2 : Int) (x3 : Int) (x4 : Int) (x5 : Int) (x6 : Int) (x7 : Int) (w : World) : (Instr.buildSlice 50 4 [(0, .agg #[.int .i64 x0, .int .i64 x1]),(1, .agg #[.int .i64 x2, .int .i64 x3]),(2, .agg #[.int .i64 x4, .int .i64 x5]),(3, .agg #[.int .i64 x6, .int .i64 x7])].toArray).run Tryz.prog w = .ok (.slice (some ⟨w.heap.size, 0, none⟩) 4 4) (w.alloc (Go.Rt.blk 23 [.int .i64 x0, .int .i64 x1, .int .i64 x2, .int .i64 x3, .int .i64 x4, .int .i64 x5, .int .i64 x6, .int .i64 x7])) := by kernel_rfl
theorem c5 {w0 w : World} {F : List (Nat × Obj)}  (hs : St w0 w F) :
  Con Tryz.prog 5 [] w fun v w' => v = .bool true ∧ St w0 w' F := by
  refine zAu (n := 226) func5 rfl rfl (zNl rfl) ?_
  refine zAf (fun K2 gg => (zAa (zBg rfl rfl (zAe (zAc (gg _ _ (zAf (fun K4 gh => (zAa (zAs zAb call18 rfl rfl rfl rfl (c18 6 3 (by omega) hs) ?_))))))))))
  rintro _ w6 ⟨s1, rfl, gi⟩
  refine zAs zAb call18 rfl rfl rfl rfl (c18 5 3 (by omega) gi) ?_
  rintro _ w9 ⟨s2, rfl, gj⟩
  refine zAs zAb call18 rfl rfl rfl rfl (c18 6 2 (by omega) gj) ?_
  rintro _ hP ⟨s3, rfl, gk⟩
  refine zAs zAb call18 rfl rfl rfl rfl (c18 5 2 (by omega) gk) ?_
  rintro _ hX ⟨s4, rfl, gl⟩
  refine zBb (cs := [_,_,_,_]) zAb zeroValue26 rfl gl (fun gm hY gn => ?_)
  refine zBb (cs := [_,_,_,_]) zAb zeroValue26 rfl gn (fun go j0 gp => ?_)
  refine zBb (cs := [_,_,_,_]) zAb zeroValue26 rfl gp (fun gq j1 gr => ?_)
  refine zBb (cs := [_,_,_,_]) zAb zeroValue26 rfl gr (fun gt j2 gu => ?_)
  refine zA4 (i := 3) (v := .agg #[.int _ _, .int _ _, .int _ _, .slice _ _ _]) (vs := [_,_,_,_]) zAb sizeOf26 rfl rfl rfl rfl rfl (by simp [Value.oneCell']) gu rfl (zNl rfl) (fun j3 gv => ?_)
  refine zA4 (i := 2) (v := .agg #[.int _ _, .int _ _, .int _ _, .slice _ _ _]) (vs := [_,_,_,_]) zAb sizeOf26 rfl rfl rfl rfl rfl (by simp [Value.oneCell']) gv rfl (zNl rfl) (fun j4 gw => ?_)
  refine zA4 (i := 1) (v := .agg #[.int _ _, .int _ _, .int _ _, .slice _ _ _]) (vs := [_,_,_,_]) zAb sizeOf26 rfl rfl rfl rfl rfl (by simp [Value.oneCell']) gw rfl (zNl rfl) (fun j5 gx => ?_)
  refine zA4 (i := 0) (v := .agg #[.int _ _, .int _ _, .int _ _, .slice _ _ _]) (vs := [_,_,_,_]) zAb sizeOf26 rfl rfl rfl rfl rfl (by simp [Value.oneCell']) gx rfl (zNl rfl) (fun j6 gy => ?_)
  refine zAe (zAc (gh _ _ (zAf (fun j7 gz => (zAa (zA0 (ps := [(0, _),(1, _),(2, _)]) (pv := [(0, .int _ _),(1, .int _ _),(2, .int _ _)]) (cs := [_,_,_]) zAb rfl rfl (fun w => zIz _ _ _ w) gy (fun g0 j8 gA => ?_)))))))
  refine w_p (zAm (v := .slice _ _ _) rfl rfl) rfl (zAe (zAc (gz _ _ (zAf (fun j9 gB => ?_)))))
  obtain ⟨Z, hZ, hsZ⟩ := gen_Z gA
  have hP1 : Ats w0 Z gm 0 ((exPort 6 3).cells (some ⟨s1,0, none⟩) 3) := by rw [hZ]; exact zAh (i := 4) (vs := [_,_,_,_]) rfl rfl
  have hS1 : Sl w0 Z (some ⟨s1,0, none⟩) 6 (rows (exPort 6 3).farms) := by rw [hZ]; exact zBp (i := 8) rfl (by intro row hr; obtain ⟨f, _, rfl⟩ := List.mem_map.1 hr; rfl) rfl
  have hP2 : Ats w0 Z go 0 ((exPort 5 3).cells (some ⟨s2,0, none⟩) 3) := by rw [hZ]; exact zAh (i := 3) (vs := [_,_,_,_]) rfl rfl
  have hS2 : Sl w0 Z (some ⟨s2,0, none⟩) 6 (rows (exPort 5 3).farms) := by rw [hZ]; exact zBp (i := 7) rfl (by intro row hr; obtain ⟨f, _, rfl⟩ := List.mem_map.1 hr; rfl) rfl
  have hP3 : Ats w0 Z gq 0 ((exPort 6 2).cells (some ⟨s3,0, none⟩) 3) := by rw [hZ]; exact zAh (i := 2) (vs := [_,_,_,_]) rfl rfl
  have hS3 : Sl w0 Z (some ⟨s3,0, none⟩) 6 (rows (exPort 6 2).farms) := by rw [hZ]; exact zBp (i := 6) rfl (by intro row hr; obtain ⟨f, _, rfl⟩ := List.mem_map.1 hr; rfl) rfl
  have hP4 : Ats w0 Z gt 0 ((exPort 5 2).cells (some ⟨s4,0, none⟩) 3) := by rw [hZ]; exact zAh (i := 1) (vs := [_,_,_,_]) rfl rfl
  have hS4 : Sl w0 Z (some ⟨s4,0, none⟩) 6 (rows (exPort 5 2).farms) := by rw [hZ]; exact zBp (i := 5) rfl (by intro row hr; obtain ⟨f, _, rfl⟩ := List.mem_map.1 hr; rfl) rfl
  have hl5 : Sl w0 Z (some ⟨g0,0, none⟩) 1 (([2,3, -1] : List Int).map fun x => [Value.int .i64 x]) := by rw [hZ]; exact zBp (i := 0) (rows := [[_], [_], [_]]) rfl (by simp) rfl
  refine zAa (w_p (zA7 (vs := [_,_,_,_]) isAgg26 sizeOf26 hsZ rfl rfl hP2) rfl (w_p (zAi (v := .slice _ _ _) rfl rfl) rfl (zAs zAb call11 rfl rfl rfl rfl ((c11 (exPort 5 3) (some ⟨s2,0, none⟩) 3 (by decide) (by decide) hS2 (zIs _ _) (some ⟨g0,0, none⟩) 3 [2,3, -1] (by decide) hl5 hsZ).mono (fun v w' h => by rw [ex_q5] at h; rw [ex_q5v] at h;  exact h)) ?_)))
  rintro _ ja ⟨B1, aq1, cq1, rfl, hq1, g4⟩
  replace g4 := (show St _ _ (B1 ++ (Z)) from g4)
  refine w_p (zAi (v := .tuple _) rfl rfl) rfl (w_p (zAn (v := .slice _ _ _) rfl rfl rfl) rfl (w_p (zAn (v := .int _ _) rfl rfl rfl) rfl (w_p (zAm (v := .slice _ _ _) rfl rfl) rfl (zBl rfl rfl (zAe (zAc (gB _ _ (zAf (fun jb gC => (zAa (w_p (zA7 (vs := [_,_,_,_]) isAgg26 sizeOf26 g4.drop rfl rfl hP1) rfl ?_)))))))))))
  refine w_p (zAi (v := .slice _ _ _) rfl rfl) rfl (zAs zAb call19 rfl rfl rfl rfl ((c19 (exPort 6 3) (some ⟨s1,0, none⟩) 3 (by decide) (by decide) hS1.app (zIs _ _) (some ⟨g0,0, none⟩) 3 [2,3, -1] (by decide) hl5.app g4).mono (fun v w' h => by rw [ex_f6] at h; rw [ex_q6] at h;  exact h)) ?_)
  rintro _ jc ⟨rfl, g8⟩
  refine w_p (zAi (v := .tuple _) rfl rfl) rfl (w_p (zAn (v := .int _ _) rfl rfl rfl) rfl (w_p (zAn (v := .int _ _) rfl rfl rfl) rfl (zBl rfl rfl (zBl rfl rfl (zAe (zAc (gC _ _ (zAf (fun jd gD => (zAa (w_p (zA7 (vs := [_,_,_,_]) isAgg26 sizeOf26 g8.drop rfl rfl hP2) rfl ?_)))))))))))
  refine w_p (zAi (v := .slice _ _ _) rfl rfl) rfl (zAs zAb call19 rfl rfl rfl rfl ((c19 (exPort 5 3) (some ⟨s2,0, none⟩) 3 (by decide) (by decide) hS2.app (zIs _ _) (some ⟨g0,0, none⟩) 3 [2,3, -1] (by decide) hl5.app g8).mono (fun v w' h => by rw [ex_f5] at h; rw [ex_q5] at h;  exact h)) ?_)
  rintro _ je ⟨rfl, g9⟩
  refine w_p (zAi (v := .tuple _) rfl rfl) rfl (w_p (zAn (v := .int _ _) rfl rfl rfl) rfl (w_p (zAn (v := .int _ _) rfl rfl rfl) rfl (zBl rfl rfl (zBl rfl rfl (zAe (zAc (gD _ _ (zAf (fun jf gE => (zAa (w_p (zA7 (vs := [_,_,_,_]) isAgg26 sizeOf26 g9.drop rfl rfl hP2) rfl ?_)))))))))))
  refine zA0 (ps := [(0, _),(1, _),(2, _)]) (pv := [(0, .int _ _),(1, .int _ _),(2, .int _ _)]) (cs := [_,_,_]) zAb rfl rfl (fun w => zIz _ _ _ w) g9 (fun gF jg gG => ?_)
  refine zAs zAb call19 rfl rfl rfl rfl ((c19 (exPort 5 3) (some ⟨s2,0, none⟩) 3 (by decide) (by decide) hS2.app.cons (zIs _ _) (some ⟨gF,0, none⟩) 3 [-1, -1,3] (by decide) (zBp (i := 0) (rows := [[_], [_], [_]]) rfl (by simp) rfl) gG).mono (fun v w' h => by rw [ex_f5b] at h; rw [ex_q5b] at h;  exact h)) ?_
  rintro _ jh ⟨rfl, ga⟩
  refine w_p (zAi (v := .tuple _) rfl rfl) rfl (w_p (zAn (v := .int _ _) rfl rfl rfl) rfl (w_p (zAn (v := .int _ _) rfl rfl rfl) rfl (zBl rfl rfl (zBl rfl rfl (zAe (zAc (gE _ _ (zAf (fun ji gH => (zAa (w_p (zA7 (vs := [_,_,_,_]) isAgg26 sizeOf26 ga.tail.drop rfl rfl hP2) rfl ?_)))))))))))
  refine w_p (zAi (v := .slice _ _ _) rfl rfl) rfl (zAs zAb call20 rfl rfl rfl rfl ((c20 (exPort 5 3) (some ⟨s2,0, none⟩) 3 (by decide) (by decide) hS2.app.cons (zIs _ _) (some ⟨g0,0, none⟩) 3 [2,3, -1] (by decide) hl5.app.cons ga).mono (fun v w' h => by rw [ex_v5] at h; rw [ex_q5] at h;  exact h)) ?_)
  rintro _ jj ⟨rfl, gb⟩
  refine w_p (zAi (v := .tuple _) rfl rfl) rfl (w_p (zAn (v := .int _ _) rfl rfl rfl) rfl (w_p (zAn (v := .int _ _) rfl rfl rfl) rfl (zBl rfl rfl (zBl rfl rfl (zAe (zAc (gH _ _ (zAf (fun jk gI => (zAa (w_p (zA7 (vs := [_,_,_,_]) isAgg26 sizeOf26 gb.tail.drop rfl rfl hP1) rfl ?_)))))))))))
  refine zAs zAb call21 rfl rfl rfl rfl ((c21 (exPort 6 3) (some ⟨s1,0, none⟩) 3 (by decide) (by decide) hS1.app.cons (zIs _ _) gb).mono (fun v w' h => by rw [ex_p6] at h; rw [ex_p6v] at h; rw [ex_p6e] at h;  exact h)) ?_
  rintro _ jl ⟨B2, aq2, cq2, rfl, hq2, g5⟩
  replace g5 := (show St _ _ (B2 ++ (_ :: B1 ++ (Z))) from g5)
  refine w_p (zAi (v := .tuple _) rfl rfl) rfl (w_p (zAn (v := .slice _ _ _) rfl rfl rfl) rfl (w_p (zAn (v := .int _ _) rfl rfl rfl) rfl (w_p (zAn (v := .int _ _) rfl rfl rfl) rfl (w_p (zAm (v := .slice _ _ _) rfl rfl) rfl ?_))))
  refine zBl rfl rfl (zBl rfl rfl (zAe (zAc (gI _ _ (zAf (fun jm gJ => (zAa (w_p (zA7 (vs := [_,_,_,_]) isAgg26 sizeOf26 g5.drop.tail.drop rfl rfl hP2) rfl (zAs zAb call21 rfl rfl rfl rfl ((c21 (exPort 5 3) (some ⟨s2,0, none⟩) 3 (by decide) (by decide) hS2.app.cons.app (zIs _ _) g5).mono (fun v w' h => by rw [ex_p5] at h; rw [ex_p5v] at h; rw [ex_p5e] at h;  exact h)) ?_)))))))))
  rintro _ jn ⟨B3, aq3, cq3, rfl, hq3, g6⟩
  replace g6 := (show St _ _ (B3 ++ (B2 ++ (_ :: B1 ++ (Z)))) from g6)
  refine w_p (zAi (v := .tuple _) rfl rfl) rfl (w_p (zAn (v := .slice _ _ _) rfl rfl rfl) rfl (w_p (zAn (v := .int _ _) rfl rfl rfl) rfl (w_p (zAn (v := .int _ _) rfl rfl rfl) rfl (w_p (zAm (v := .slice _ _ _) rfl rfl) rfl ?_))))
  refine zBl rfl rfl (zBl rfl rfl (zAe (zAc (gJ _ _ (zAf (fun jo gK => (zAa (w_p (zA7 (vs := [_,_,_,_]) isAgg26 sizeOf26 g6.drop.drop.tail.drop rfl rfl hP4) rfl (zAs zAb call21 rfl rfl rfl rfl ((c21 (exPort 5 2) (some ⟨s4,0, none⟩) 3 (by decide) (by decide) hS4.app.cons.app.app (zIs _ _) g6).mono (fun v w' h => by rw [ex_t5] at h; rw [ex_t5v] at h; rw [ex_t5e] at h;  exact h)) ?_)))))))))
  rintro _ jp ⟨B4, aq4, cq4, rfl, hq4, g7⟩
  replace g7 := (show St _ _ (B4 ++ (B3 ++ (B2 ++ (_ :: B1 ++ (Z))))) from g7)
  refine w_p (zAi (v := .tuple _) rfl rfl) rfl (w_p (zAn (v := .slice _ _ _) rfl rfl rfl) rfl (w_p (zAn (v := .int _ _) rfl rfl rfl) rfl (w_p (zAn (v := .int _ _) rfl rfl rfl) rfl (w_p (zAm (v := .slice _ _ _) rfl rfl) rfl ?_))))
  refine zBl rfl rfl (zBl rfl rfl (zAe (zAc (gK _ _ (zAf (fun jq gL => (zAa (w_p (zA7 (vs := [_,_,_,_]) isAgg26 sizeOf26 g7.drop.drop.drop.tail.drop rfl rfl hP3) rfl (zAs zAb call22 rfl rfl rfl rfl ((c22 (exPort 6 2) (some ⟨s3,0, none⟩) 3 (by decide) (by decide) hS3.app.cons.app.app.app (zIs _ _) 0 g7).mono (fun v w' h => by rw [ex_h60] at h; rw [ex_h60e] at h;  exact h)) ?_)))))))))
  rintro _ jr ⟨rfl, gc⟩
  refine w_p (zAi (v := .tuple _) rfl rfl) rfl (w_p (zAn (v := .int _ _) rfl rfl rfl) rfl (w_p (zAn (v := .int _ _) rfl rfl rfl) rfl (zBl rfl rfl (zBl rfl rfl (zAe (zAc (gL _ _ (zAf (fun js gM => (zAa (w_p (zA7 (vs := [_,_,_,_]) isAgg26 sizeOf26 gc.drop.drop.drop.tail.drop rfl rfl hP4) rfl ?_)))))))))))
  refine zAs zAb call23 rfl rfl rfl rfl ((c23 (exPort 5 2) (some ⟨s4,0, none⟩) 3 (by decide) (by decide) hS4.app.cons.app.app.app (zIs _ _) gc).mono (fun v w' h => by rw [ex_e5] at h;  exact h)) ?_
  rintro _ jt ⟨rfl, gd⟩
  refine w_p (zAi (v := .tuple _) rfl rfl) rfl (w_p (zAn (v := .int _ _) rfl rfl rfl) rfl (w_p (zAn (v := .int _ _) rfl rfl rfl) rfl (w_p (zAn (v := .int _ _) rfl rfl rfl) rfl (zBl rfl rfl (zBl rfl rfl (zBl rfl rfl ?_))))))
  refine zAe (zAc (gM _ _ (zAf (fun ju gN => (zAa (w_p (zA7 (vs := [_,_,_,_]) isAgg26 sizeOf26 gd.drop.drop.drop.tail.drop rfl rfl hP1) rfl (zAs zAb call23 rfl rfl rfl rfl ((c23 (exPort 6 3) (some ⟨s1,0, none⟩) 3 (by decide) (by decide) hS1.app.cons.app.app.app (zIs _ _) gd).mono (fun v w' h => by rw [ex_e6] at h;  exact h)) ?_)))))))
  rintro _ jv ⟨rfl, ge⟩
  refine w_p (zAi (v := .tuple _) rfl rfl) rfl (w_p (zAn (v := .int _ _) rfl rfl rfl) rfl (w_p (zAn (v := .int _ _) rfl rfl rfl) rfl (w_p (zAn (v := .int _ _) rfl rfl rfl) rfl (zBl rfl rfl (zBl rfl rfl (zBl rfl rfl ?_))))))
  refine zAe (zAc (gN _ _ (zAf (fun jw gO => (zAa (w_p (zA7 (vs := [_,_,_,_]) isAgg26 sizeOf26 ge.drop.drop.drop.tail.drop rfl rfl hP2) rfl (zAs zAb call24 rfl rfl rfl rfl ((c24 (exPort 5 3) (some ⟨s2,0, none⟩) 3 (by decide) (by decide) hS2.app.cons.app.app.app (zIs _ _) 3 ge).mono (fun v w' h => by rw [ex_t3] at h; rw [ex_t3e] at h;  exact h)) ?_)))))))
  rintro _ jx ⟨rfl, gf⟩
  refine w_p (zAi (v := .tuple _) rfl rfl) rfl (w_p (zAn (v := .int _ _) rfl rfl rfl) rfl (w_p (zAn (v := .int _ _) rfl rfl rfl) rfl (zBl rfl rfl (zBl rfl rfl (zAe (zAc (gO _ _ (zAf (fun jy gP => (zAa (w_p (zA7 (vs := [_,_,_,_]) isAgg26 sizeOf26 gf.drop.drop.drop.tail.drop rfl rfl hP1) rfl ?_)))))))))))
  refine zAs zAb call22 rfl rfl rfl rfl ((c22 (exPort 6 3) (some ⟨s1,0, none⟩) 3 (by decide) (by decide) hS1.app.cons.app.app.app (zIs _ _) 3 gf).mono (fun v w' h => by rw [ex_h63] at h; rw [ex_h63e] at h;  exact h)) ?_
  rintro _ jz ⟨rfl, gQ⟩
  refine w_p (zAi (v := .tuple _) rfl rfl) rfl (w_p (zAn (v := .int _ _) rfl rfl rfl) rfl (w_p (zAn (v := .int _ _) rfl rfl rfl) rfl (zBl rfl rfl (zBl rfl rfl (zAe (zAc (gP _ _ (zAf (fun jA gR => (zAa (zBa rfl rfl ?_)))))))))))
  refine w_p (zBw rfl rfl rfl rfl) rfl (w_p (zAi (v := .bool _) rfl rfl) rfl (w_y rfl rfl rfl (zA1 rfl rfl) rfl (w_y rfl rfl rfl (zBw rfl rfl rfl rfl) rfl (w_p (zAx (v := .bool _) rfl rfl rfl rfl) rfl (w_p (zAi (v := .bool _) rfl rfl) rfl ?_)))))
  refine w_y rfl rfl rfl (zA1 rfl rfl) rfl ?_
  refine w_y rfl rfl rfl (zBw rfl rfl rfl rfl) rfl ?_
  refine w_p (zAx (v := .bool _) rfl rfl rfl rfl) rfl (w_p (zAi (v := .bool _) rfl rfl) rfl (w_y rfl rfl rfl (zA1 rfl rfl) rfl (w_y rfl rfl rfl (zBw rfl rfl rfl rfl) rfl (w_p (zAx (v := .bool _) rfl rfl rfl rfl) rfl ?_))))
  refine w_p (zAi (v := .bool _) rfl rfl) rfl (w_y rfl rfl rfl (zA1 rfl rfl) rfl (w_y rfl rfl rfl (zBw rfl rfl rfl rfl) rfl (w_p (zAx (v := .bool _) rfl rfl rfl rfl) rfl (w_p (zAi (v := .bool _) rfl rfl) rfl ?_))))
  refine w_y rfl rfl rfl (zA1 rfl rfl) rfl ?_
  refine w_y rfl rfl rfl (zBw rfl rfl rfl rfl) rfl ?_
  refine w_p (zAx (v := .bool _) rfl rfl rfl rfl) rfl (w_p (zAi (v := .bool _) rfl rfl) rfl (w_y rfl rfl rfl (zA1 rfl rfl) rfl (w_y rfl rfl rfl (zBw rfl rfl rfl rfl) rfl (w_p (zAx (v := .bool _) rfl rfl rfl rfl) rfl ?_))))
  refine w_p (zAi (v := .bool _) rfl rfl) rfl (w_y rfl rfl rfl (zA1 rfl rfl) rfl (w_y rfl rfl rfl (zBw rfl rfl rfl rfl) rfl (w_p (zAx (v := .bool _) rfl rfl rfl rfl) rfl (w_p (zAi (v := .bool _) rfl rfl) rfl ?_))))
  refine w_y rfl rfl rfl (zA1 rfl rfl) rfl ?_
  refine w_y rfl rfl rfl (zBw rfl rfl rfl rfl) rfl ?_
  refine w_p (zAx (v := .bool _) rfl rfl rfl rfl) rfl (w_p (zAi (v := .bool _) rfl rfl) rfl (w_y rfl rfl rfl (zA1 rfl rfl) rfl (w_y rfl rfl rfl (zBw rfl rfl rfl rfl) rfl (w_p (zAx (v := .bool _) rfl rfl rfl rfl) rfl ?_))))
  refine w_p (zAi (v := .bool _) rfl rfl) rfl (w_y rfl rfl rfl (zA1 rfl rfl) rfl (w_y rfl rfl rfl (zBw rfl rfl rfl rfl) rfl (w_p (zAx (v := .bool _) rfl rfl rfl rfl) rfl (w_p (zAi (v := .bool _) rfl rfl) rfl ?_))))
  refine w_y rfl rfl rfl (zA1 rfl rfl) rfl ?_
  refine w_y rfl rfl rfl (zBw rfl rfl rfl rfl) rfl ?_
  refine w_p (zAx (v := .bool _) rfl rfl rfl rfl) rfl (w_p (zAi (v := .bool _) rfl rfl) rfl (w_y rfl rfl rfl (zA1 rfl rfl) rfl (w_y rfl rfl rfl (zBw rfl rfl rfl rfl) rfl (w_p (zAx (v := .bool _) rfl rfl rfl rfl) rfl ?_))))
  refine w_p (zAi (v := .bool _) rfl rfl) rfl (w_y rfl rfl rfl (zAi (v := .slice _ _ _) rfl rfl) rfl (zAs (zAp rfl rfl rfl) call26 rfl rfl rfl rfl (c26 _ _ gQ) ?_))
  rintro _ jB ⟨rfl, gT⟩
  refine zAs (zAp rfl rfl rfl) call26 rfl rfl rfl rfl (c26 _ _ gT) ?_
  rintro _ jC ⟨rfl, gU⟩
  refine zAs (zAp rfl rfl rfl) call26 rfl rfl rfl rfl (c26 _ _ gU) ?_
  rintro _ jD ⟨rfl, gV⟩
  refine zAs (zAp rfl rfl rfl) call26 rfl rfl rfl rfl (c26 _ _ gV) ?_
  rintro _ jE ⟨rfl, gW⟩
  refine zA0 (ps := [(0, _),(1, _),(2, _),(3, _)]) (pv := [(0, .agg #[.int _ _, .int _ _]),(1, .agg #[.int _ _, .int _ _]),(2, .agg #[.int _ _, .int _ _]),(3, .agg #[.int _ _, .int _ _])]) (cs := [_,_,_,_,_,_,_,_]) (zAp rfl rfl rfl) rfl rfl (fun w => Try_CS_fb9 _ _ _ _ _ _ _ _ w) gW (fun jF jG gX => ?_)
  refine zAs (zAp rfl rfl rfl) call25 rfl rfl rfl rfl (zGz (c25 _ _ [[20,25], [50,55], [50,55], [50,55]] [[20,25], [50,55], [50,55], [50,55]] _ _ (by decide) (by decide) hq1.cons.app.app.app.cons (zBp (i := 0) (rows := [[_,_], [_,_], [_,_], [_,_]]) rfl (by simp) rfl) gX) (by decide)) ?_
  rintro _ jH ⟨rfl, gY⟩
  refine w_p (zAx (v := .bool _) rfl rfl rfl rfl) rfl (w_p (zAi (v := .bool _) rfl rfl) rfl (w_y rfl rfl rfl (zA1 rfl rfl) rfl (w_y rfl rfl rfl (zBw rfl rfl rfl rfl) rfl (w_p (zAx (v := .bool _) rfl rfl rfl rfl) rfl ?_))))
  refine w_p (zAi (v := .bool _) rfl rfl) rfl (w_y rfl rfl rfl (zA1 rfl rfl) rfl (w_y rfl rfl rfl (zBw rfl rfl rfl rfl) rfl (w_p (zAx (v := .bool _) rfl rfl rfl rfl) rfl (w_p (zAi (v := .bool _) rfl rfl) rfl ?_))))
  refine w_y rfl rfl rfl (zA1 rfl rfl) rfl ?_
  refine w_y rfl rfl rfl (zBw rfl rfl rfl rfl) rfl ?_
  refine w_p (zAx (v := .bool _) rfl rfl rfl rfl) rfl (w_p (zAi (v := .bool _) rfl rfl) rfl (w_y rfl rfl rfl (zA1 rfl rfl) rfl (w_y rfl rfl rfl (zBw rfl rfl rfl rfl) rfl (w_p (zAx (v := .bool _) rfl rfl rfl rfl) rfl ?_))))
  refine w_p (zAi (v := .bool _) rfl rfl) rfl (w_y rfl rfl rfl (zAi (v := .slice _ _ _) rfl rfl) rfl (w_y rfl rfl rfl (zAi (v := .slice _ _ _) rfl rfl) rfl (zAs (zAp rfl rfl rfl) call27 rfl rfl rfl rfl (zGz (c27 _ _ [2,3, -1] [2,3, -1] _ _ (by decide) hq2.app.app.cons hl5.app.cons.app.app.app.cons gY) (by decide)) ?_)))
  rintro _ jI ⟨rfl, gZ⟩
  refine w_p (zAx (v := .bool _) rfl rfl rfl rfl) rfl (w_p (zAi (v := .bool _) rfl rfl) rfl (w_y rfl rfl rfl (zA1 rfl rfl) rfl (w_y rfl rfl rfl (zBw rfl rfl rfl rfl) rfl (w_p (zAx (v := .bool _) rfl rfl rfl rfl) rfl ?_))))
  refine w_p (zAi (v := .bool _) rfl rfl) rfl (w_y rfl rfl rfl (zAi (v := .slice _ _ _) rfl rfl) rfl (zA0 (ps := [(0, _),(1, _),(2, _)]) (pv := [(0, .int _ _),(1, .int _ _),(2, .int _ _)]) (cs := [_,_,_]) (zAp rfl rfl rfl) rfl rfl (fun w => zIz _ _ _ w) gZ (fun jJ jK hD => ?_)))
  refine zAs (zAp rfl rfl rfl) call27 rfl rfl rfl rfl (zGz (c27 _ _ [2,0,3] [2,0,3] _ _ (by decide) hq3.app.cons.cons (zBp (i := 0) (rows := [[_], [_], [_]]) rfl (by simp) rfl) hD) (by decide)) ?_
  rintro _ jL ⟨rfl, hO⟩
  refine w_p (zAx (v := .bool _) rfl rfl rfl rfl) rfl (w_p (zAi (v := .bool _) rfl rfl) rfl (w_y rfl rfl rfl (zA1 rfl rfl) rfl (w_y rfl rfl rfl (zBw rfl rfl rfl rfl) rfl (w_p (zAx (v := .bool _) rfl rfl rfl rfl) rfl ?_))))
  refine w_p (zAi (v := .bool _) rfl rfl) rfl (w_y rfl rfl rfl (zA1 rfl rfl) rfl (w_y rfl rfl rfl (zBw rfl rfl rfl rfl) rfl (w_p (zAx (v := .bool _) rfl rfl rfl rfl) rfl (w_p (zAi (v := .bool _) rfl rfl) rfl ?_))))
  refine w_y rfl rfl rfl (zA1 rfl rfl) rfl ?_
  refine w_y rfl rfl rfl (zBw rfl rfl rfl rfl) rfl ?_
  refine w_p (zAx (v := .bool _) rfl rfl rfl rfl) rfl (w_p (zAi (v := .bool _) rfl rfl) rfl (w_y rfl rfl rfl (zA1 rfl rfl) rfl (w_y rfl rfl rfl (zBw rfl rfl rfl rfl) rfl (w_p (zAx (v := .bool _) rfl rfl rfl rfl) rfl ?_))))
  refine w_p (zAi (v := .bool _) rfl rfl) rfl (w_y rfl rfl rfl (zA1 rfl rfl) rfl (w_y rfl rfl rfl (zBw rfl rfl rfl rfl) rfl (w_p (zAx (v := .bool _) rfl rfl rfl rfl) rfl (w_p (zAm (v := .bool _) rfl rfl) rfl ?_))))
  refine zAe (zAc (gR _ _ (zA2 (zA9 (l := [.tmp 0]) (vs := [_]) rfl ⟨⟨rfl, (rfl : _ = Value.bool _)⟩, trivial⟩ ?_))))
  exact ⟨rfl, (St.cast hZ hO.tail.tail.drop.drop.drop.tail.drop).tail.tail.tail.tail.tail.tail.tail.tail.tail⟩

end Go.Proofs.Cb
set_option maxRecDepth 20000
namespace Go.Proofs.Cb
open Go.Proofs.Tryz
open Go.Rt Go.Rt.Ca
attribute [local irreducible] WL WC Con Yd At Ats Sl Agree DW
theorem Try_CZc_fb8 (x0 : Int) (w : World) : (Instr.buildSlice 34 1 [(0, .int .i64 x0)].toArray).run Tryz.prog w = .ok (.slice (some ⟨w.heap.size, 0, none⟩) 1 1) (w.alloc (Go.Rt.blk 3 [.int .i64 x0])) := by kernel_rfl
theorem sl_u8 {w0 : World} {F : List (Nat × Obj)} {a : Option Addr} {l : List Int} {i : Nat} (h : Sl w0 F a 1 (l.map fun x => [Value.int .u8 x])) (hi : i < l.length) :
    ∃ b off, a = some ⟨b, off, none⟩ ∧ Ats w0 F b (off + i * 1) [.int .u8 l[i]] := by
  obtain ⟨b, off, ha, _, hat⟩ := h.at (i := i) (row := [.int .u8 l[i]]) (by simp [hi])
  exact ⟨b, off, ha, hat⟩
theorem turn_at {x : List Int} {n : Nat} (h : 0 < x.length) : x[n % x.length]'(Nat.mod_lt _ h) = turnOf x n := by
  unfold turnOf
  rw [if_neg (by omega)]
  simp [List.getD, Nat.mod_lt _ h]
theorem c34 {w0 w : World} {F : List (Nat × Obj)} (ax : Option Addr) (cx : Nat) (x : List Int) (hxl : x.length ≤ 9223372036854775807) (hxs : Sl w0 F ax 1 (x.map fun n => [Value.int .u8 n])) (hxr : ∀ z ∈ x, 0 ≤ z ∧ z ≤ 255) (n : Nat) (hs : St w0 w F) :
  Con Tryz.prog 34 [.slice ax x.length cx, .int .i64 (n : Int)] w fun v w' => v = .int .i64 (turnOf x n) ∧ St w0 w' F := by
  refine zAu (n := 16) func34 rfl rfl (zNl rfl) ?_
  refine zAf (fun K2 g0 => (zAa (zBg rfl rfl (zAe (zAc (g0 _ _ (zAf (fun K4 g4 => (zAf (fun K6 g5 => (zAa (w_p (zAi (v := .slice _ _ _) rfl rfl) rfl ?_))))))))))))
  refine w_p (zBm underlying27 rfl rfl) rfl (w_p (zBw rfl rfl rfl rfl) rfl (zAe (zAc (g5 _ _ (zAy rfl rfl (fun h7 => ?_) (fun h7 => ?_))))))
  ·
   try simp only [zS] at h7
   refine zAf (fun K9 g6 => (zAa (zBg rfl rfl (zAe (zAc (g6 _ _ (zA2 (zAk (zA9 (l := [.tmp 4]) (vs := [_]) rfl ⟨⟨rfl, (rfl : _ = Value.int _ _)⟩, trivial⟩ ?_)))))))))
   first
     | exact ⟨congrArg (Value.int .i64) (by unfold turnOf; rw [if_pos (by omega)]), hs⟩
     | exact ⟨congrArg (Value.int .i64) (turn_at hx0), hs⟩
  try simp only [zS] at h7
  refine zAv (zAc (g4 _ _ (zAf (fun g8 g7 => ?_))))
  have hx0 : 0 < x.length := by omega
  have hm := Nat.mod_lt n hx0
  obtain ⟨bx, ox, rfl, hx⟩ := sl_u8 hxs hm
  have hr := hxr _ (List.getElem_mem hm)
  refine zAa (w_p (zAi (v := .slice _ _ _) rfl rfl) rfl (zBa rfl rfl (w_p (zAi (v := .slice _ _ _) rfl rfl) rfl (w_p (zBm underlying27 rfl rfl) rfl (w_p (y_rem rfl rfl rfl rfl (by omega) (by omega)) rfl ?_)))))
  refine w_p (zBc underlying27 sizeOf5 rfl rfl rfl rfl (i := n % x.length) (by simp) hm) rfl ?_
  refine w_p (zAj isAgg5 hs rfl rfl hx) rfl (w_p (zIa (by rw [underlying5]; rfl) underlying3 rfl rfl (by omega) (by omega)) rfl ?_)
  refine zBl rfl rfl (zAe (zAc (g7 _ _ (zA2 (zA9 (l := [.tmp 4]) (vs := [_]) rfl ⟨⟨rfl, (rfl : _ = Value.int _ _)⟩, trivial⟩ ?_)))))
  first
    | exact ⟨congrArg (Value.int .i64) (by unfold turnOf; rw [if_pos (by omega)]), hs⟩
    | exact ⟨congrArg (Value.int .i64) (turn_at hx0), hs⟩

theorem any_next {v : Value} {n : Nat} {x : List Int} {d : Int} {B : List (Nat × Obj)} (h : Rt.Own v 3 1 (n + 1) (iv (anyC n x) ++ [[Value.int .i64 d]].flatten) B) (hd : d = turnOf x n % 12 - 1) : Rt.Own v 3 1 (n + 1) (iv (anyC (n + 1) x)) B := by
  subst hd
  rw [any_succ]
  simpa [iv] using h
theorem c7 {w0 w : World} {F : List (Nat × Obj)} (p : Port) (a : Option Addr) (c : Nat) (h3 : p.farms.length ≤ 1000) (ax : Option Addr) (cx : Nat) (x : List Int) (hxl : x.length ≤ 9223372036854775807) (hxs : Sl w0 F ax 1 (x.map fun n => [Value.int .u8 n])) (hxr : ∀ z ∈ x, 0 ≤ z ∧ z ≤ 255) (hs : St w0 w F) :
  Con Tryz.prog 7 [.agg (p.cells a c).toArray, .slice ax x.length cx] w fun v w' => ∃ B aq cq, v = .slice aq (anyC p.farms.length x).length cq ∧ Sl w0 (B ++ F) aq 1 ((anyC p.farms.length x).map fun x => [Value.int .i64 x]) ∧ St w0 w' (B ++ F) := by
  refine zAu (n := 23) func7 rfl rfl (zNl rfl) ?_
  refine zAf (fun K2 g5 => (zAa (zCa (v := .agg #[.int _ _, .int _ _, .int _ _, .slice _ _ _]) (cs := [_,_,_,_]) zAb rfl rfl rfl hs (fun b3 w4 g6 => ?_))))
  refine zBg rfl rfl (zAe (zAc (g5 _ _ (zAf (fun K7 g7 => (zAa (zBg rfl rfl (zAe (zAc (g7 _ _ (zAf (fun K9 g8 => (zAf (fun gk g9 => (zAa (zBg rfl rfl ?_))))))))))))))))
  refine zAe (zAc (g9 _ _ (zAz ?_)))
  refine zB3 [5,6,7,8,9,10,11,12,13,14,15,16,17,18,19,20,21] [5,6] (fun kk vs w => ∃ (i : Nat) (v : Value) (B : List (Nat × Obj)), vs = [v, .int .i64 i] ∧ i ≤ p.farms.length ∧ kk = p.farms.length - i ∧ Rt.Own v 3 1 i (iv (anyC i x)) B ∧ St w0 w ((b3, blk 26 (p.cells a c)) :: (B ++ F))) (p.farms.length) ?_ ?_
  ·
   exact ⟨0, _, [], rfl, by omega, by omega, zD4 3 1, g6⟩
  intro k vs μ gl hI gm ga
  obtain ⟨i, v, B, rfl, hia, rfl, hown, hs⟩ := hI
  refine zAf (fun gn gb => (zAf (fun go gc => (zAa (zBa rfl rfl (w_p (zAd (o := 3) (i := 2) underlying26 rfl sizeOf24 rfl rfl rfl) rfl (w_p (zAj isAgg24 hs rfl rfl (zAh (i := 0) (vs := [_]) rfl rfl)) rfl ?_)))))))
  refine w_p (zBm underlying24 rfl rfl) rfl (w_p (zCl rfl rfl rfl rfl) rfl (zAe (zAc (gc _ _ (zAy rfl rfl (fun g0 => ?_) (fun g0 => ?_))))))
  ·
   try simp only [zS] at g0
   refine zAv (zAc (gb _ _ (zAf (fun gp gd => (zAz ?_)))))
   have htr := turn_in hxr i
   refine zAa (w_p (zAi (v := v) rfl rfl) rfl (w_p (zAi (v := .slice _ _ _) rfl rfl) rfl (zBa rfl rfl (zAs zAb call34 rfl rfl rfl rfl (c34 _ _ x hxl hxs.app.cons hxr _ hs) ?_))))
   rintro _ gq ⟨rfl, ge⟩
   refine w_p (y_rem rfl rfl rfl rfl (by omega) (by omega)) rfl (w_p (zEi rfl rfl rfl rfl (by omega) (by omega)) rfl (zA0 (ps := [(0, _)]) (pv := [(0, .int _ _)]) (cs := [_]) zAb rfl rfl (fun w => Try_CZc_fb8 _ w) ge (fun gr gt gf => ?_)))
   refine zBu (X := (_ :: _ :: [])) (B := B) (rows := [[_]]) (sz := 1) (bytes := 8) zAb underlying34 zCk rfl rfl rfl rfl rfl rfl rfl rfl rfl gf hown (zBp (i := 0) rfl (by simp) rfl) rfl (by simp) (by simp [Value.oneCell']) (by simp only [maxLen]; omega) (by omega) (fun gg gu gh gi g4 => ?_)
   replace g4 := (show St _ _ (_ :: _ :: gh ++ (F)) from g4)
   refine w_p (zAm (v := gg) rfl rfl) rfl (zAe (zAl (zAc (gd _ _ (zAa (zBa rfl rfl (w_p (zBj rfl rfl rfl rfl (by omega) (by omega)) rfl ?_)))))))
   refine zBl rfl rfl (zAe (zAc (ga _ _ (nxI (p.farms.length - (i + 1)) (by omega) ?_))))
   exact ⟨i + 1, _,_, rfl, by omega, rfl, any_next gi rfl, g4.tail⟩
  try simp only [zS] at g0
  refine zBq (zAo (zAo (zA8 (zAc (g8 _ _ (zAf (fun gv gj => (zAa (w_p (zAi (v := v) rfl rfl) rfl (w_p (zAm (v := v) rfl rfl) rfl ?_))))))))))
  refine zAe (zAc (gj _ _ (zA2 (zA9 (l := [.tmp 4]) (vs := [_]) rfl ⟨⟨rfl, show _ = (v : Value) from rfl⟩, trivial⟩ ?_))))
  have hil : i = p.farms.length := by omega
  subst hil
  obtain ⟨aw, cw, rfl, hsw⟩ := zIl (w0 := w0) hown (any_len _ _) F
  exact ⟨B, aw, cw, rfl, hsw, hs.tail⟩

theorem c8 {w0 w : World} {F : List (Nat × Obj)} (p : Port) (a : Option Addr) (c : Nat) (ha : Sl w0 F a 6 (rows p.farms)) (hok : p.Ok) (al : Option Addr) (cl : Nat) (l : List Int) (hlen : l.length = p.farms.length) (hl : Sl w0 F al 1 (l.map fun x => [Value.int .i64 x])) (hl1 : ∀ x ∈ l, -1 ≤ x ∧ x ≤ 10) (d : Int) (hd : 0 ≤ d ∧ d ≤ 255) (ax : Option Addr) (cx : Nat) (x : List Int) (hxl : x.length ≤ 9223372036854775807) (hxs : Sl w0 F ax 1 (x.map fun n => [Value.int .u8 n])) (hxr : ∀ z ∈ x, 0 ≤ z ∧ z ≤ 255) (hs : St w0 w F) :
  Con Tryz.prog 8 [.agg (p.cells a c).toArray, .slice al l.length cl, .agg #[.int .u8 d, .slice ax x.length cx]] w fun v w' => v = .tuple #[.int .i64 (trU p.farms l x (p.clo + d % (p.chi - p.clo + 1)) p.farms.length).1, .int .i64 (trU p.farms l x (p.clo + d % (p.chi - p.clo + 1)) p.farms.length).2, .int .i64 (d % (p.chi - p.clo + 1))] ∧ St w0 w' F := by
  refine zAu (n := 83) func8 rfl rfl (zNl rfl) ?_
  have hlen3 := hok.len
  have hcome := hok.come
  have hq1 := Int.emod_nonneg d (show p.chi - p.clo + 1 ≠ 0 by omega)
  have hq2 := Int.emod_lt_of_pos d (show 0 < p.chi - p.clo + 1 by omega)
  refine zAf (fun K2 gd => (zAa (zCa (v := .agg #[.int _ _, .int _ _, .int _ _, .slice _ _ _]) (cs := [_,_,_,_]) zAb rfl rfl rfl hs (fun b3 w4 ge => ?_))))
  refine zCa (v := .agg #[.int _ _, .slice _ _ _]) (cs := [_,_]) zAb rfl rfl rfl ge (fun b6 w7 g7 => ?_)
  refine zBg rfl rfl (zBg rfl rfl (zBg rfl rfl (zAe (zAc (gd _ _ (zAf (fun gu gf => (zAa (w_p (zAd (o := 0) (i := 0) underlying29 rfl sizeOf5 rfl rfl rfl) rfl ?_)))))))))
  refine w_p (zAj isAgg5 g7 rfl rfl (zAh (i := 0) (vs := [_]) rfl rfl)) rfl (w_p (zIa (by rw [underlying5]; rfl) underlying3 rfl rfl (by omega) (by omega)) rfl ?_)
  refine w_p (zAd (o := 1) (i := 1) underlying26 rfl sizeOf23 rfl rfl rfl) rfl (w_p (zAd (o := 1) (i := 1) underlying23 rfl sizeOf3 rfl rfl rfl) rfl (w_p (zAj isAgg3 g7 rfl rfl (zAh (i := 1) (vs := [_]) rfl rfl)) rfl ?_))
  refine w_p (zAd (o := 1) (i := 1) underlying26 rfl sizeOf23 rfl rfl rfl) rfl (w_p (zAd (o := 0) (i := 0) underlying23 rfl sizeOf3 rfl rfl rfl) rfl (w_p (zAj isAgg3 g7 rfl rfl (zAh (i := 1) (vs := [_]) rfl rfl)) rfl ?_))
  refine w_p (zEi rfl rfl rfl rfl (by omega) (by omega)) rfl (w_p (zBj rfl rfl rfl rfl (by omega) (by omega)) rfl (w_p (y_rem rfl rfl rfl rfl (by omega) (by omega)) rfl (zBl rfl rfl (zAe (zAc (gf _ _ (zAf (fun gv gg => (zAa (zBg rfl rfl ?_))))))))))
  refine zBg rfl rfl (zAe (zAc (gg _ _ (zAf (fun gw gh => (zAf (fun gx gi => (zAa (zBg rfl rfl (zAe (zAc (gi _ _ (zAz ?_)))))))))))))
  refine zB3 [10,11,12,13,14,27,28,29,30,31,32,33,34,35,36,37,38,39,40,41,42,43,44,45,46,47,48,49,50,51,52,53,54,55,56,57,58,59,60,61,62,63,64,65,66,67,68,69,70,71,72,73,74,75,76,77,78,79] [10,11,12] (fun kk vs w => ∃ (i : Nat) (t : Int × Int), t = (trU p.farms l x (p.clo + d % (p.chi - p.clo + 1)) i) ∧ vs = [.int .i64 t.1, .int .i64 t.2, .int .i64 i] ∧ i ≤ p.farms.length ∧ kk = p.farms.length - i ∧ St w0 w ((b6, blk 29 [.int .u8 d, .slice ax x.length cx]) :: (b3, blk 26 (p.cells a c)) :: F)) (p.farms.length) ?_ ?_
  ·
   exact ⟨0, (0,0), rfl, rfl, by omega, by omega, g7⟩
  intro k vs μ gy hI gz g8
  obtain ⟨i, t, ht, rfl, hia, rfl, hs⟩ := hI
  refine zAf (fun gA gj => (zAf (fun gB gk => (zAa (zBa rfl rfl (w_p (zAd (o := 3) (i := 2) underlying26 rfl sizeOf24 rfl rfl rfl) rfl (w_p (zAj isAgg24 hs rfl rfl (zAh (i := 1) (vs := [_]) rfl rfl)) rfl ?_)))))))
  refine w_p (zBm underlying24 rfl rfl) rfl (w_p (zCl rfl rfl rfl rfl) rfl (zAe (zAc (gk _ _ (zAy rfl rfl (fun g9 => ?_) (fun g9 => ?_))))))
  ·
   try simp only [zS] at g9
   refine zAv (zAc (gj _ _ (zAf (fun gC ga => (zAz ?_)))))
   refine zAf (fun gD gl => ?_)
   have hi2 : i < p.farms.length := by omega
   have hi3 : i < l.length := by omega
   obtain ⟨bx, ox, rfl, hx⟩ := sl_farm ha hi2
   have hfo3 := hok.farm _ (List.getElem_mem hi2)
   have hfo2 := hfo3
   unfold Farm.Ok at hfo2
   obtain ⟨bl, ol, rfl, hzl⟩ := zDk hl hi3
   have hgd : l[i] = l.getD i 0 := by simp [List.getD, hi3]
   rw [hgd] at hzl
   have hb := tr_small (x := x) (day := (p.clo + d % (p.chi - p.clo + 1))) hok hlen i (by omega)
   have htu := turn_in hxr i
   have hoh := ownH_in hfo3 (t := turnOf x i)
   have hgi := hl1 _ (List.getElem_mem hi3)
   rw [hgd] at hgi
   rw [← ht] at hb
   have he1 := Int.emod_nonneg (turnOf x i) (show p.farms[i].hi - p.farms[i].lo + 1 ≠ 0 by omega)
   have he2 := Int.emod_lt_of_pos (turnOf x i) (show 0 < p.farms[i].hi - p.farms[i].lo + 1 by omega)
   refine zAa (w_p (zAd (o := 3) (i := 2) underlying26 rfl sizeOf24 rfl rfl rfl) rfl (w_p (zAj isAgg24 hs rfl rfl (zAh (i := 1) (vs := [_]) rfl rfl)) rfl (zBa rfl rfl (w_p (zBc underlying24 sizeOf46 rfl rfl rfl rfl (i := _) rfl (by omega)) rfl ?_))))
   refine w_p (zAd (o := 4) (i := 4) underlying46 rfl sizeOf23 rfl rfl rfl) rfl (w_p (zA7 (vs := [_,_]) isAgg23 sizeOf23 hs.tail.tail rfl rfl (show Ats _ _ _ _ [_,_] from Ats.part hx 4 2)) rfl (zBb (cs := [_,_]) zAb zeroValue23 rfl hs (fun gE gF gm => ?_)))
   refine zA4 (i := 0) (v := .agg #[.int _ _, .int _ _]) (vs := [_,_]) zAb sizeOf23 rfl rfl rfl rfl rfl (by simp [Value.oneCell']) gm rfl (zNl rfl) (fun gG gn => ?_)
   refine zAe (zAc (gl _ _ (zAf (fun gH go => (zCs [] [(0,0),(1,1),(2,0),(3,1),(4,0),(6,0),(7,1),(8,0),(9,1),(10,0),(11,0),(5,2),(12,0),(13,0),(14,0)] zCg (by kernel_rfl) gn (fun gI g5 => ?_))))))
   refine d_w rfl (fun _ => zAd (o := 0) (i := 0) underlying23 rfl sizeOf3 rfl rfl rfl) rfl ?_
   refine zBh rfl zAb rfl g5 (fun _ hq => (zAj isAgg3 hq rfl rfl (zAh (i := 0) (vs := [_]) rfl rfl))) ?_
   refine d_w rfl (fun _ => zAd (o := 1) (i := 1) underlying29 rfl sizeOf27 rfl rfl rfl) rfl ?_
   refine zBh rfl zAb rfl g5 (fun _ hq => (zAj isAgg27 hq rfl rfl (zAh (i := 1) (vs := [_]) rfl rfl))) ?_
   refine d_w rfl (fun _ => zA1 rfl rfl) rfl ?_
   refine d_w rfl (fun _ => zAd (o := 1) (i := 1) underlying23 rfl sizeOf3 rfl rfl rfl) rfl ?_
   refine zBh rfl zAb rfl g5 (fun _ hq => (zAj isAgg3 hq rfl rfl (zAh (i := 0) (vs := [_]) rfl rfl))) ?_
   refine d_w rfl (fun _ => zAd (o := 0) (i := 0) underlying23 rfl sizeOf3 rfl rfl rfl) rfl ?_
   refine zBh rfl zAb rfl g5 (fun _ hq => (zAj isAgg3 hq rfl rfl (zAh (i := 0) (vs := [_]) rfl rfl))) ?_
   refine d_w rfl (fun _ => zEi rfl rfl rfl rfl (by omega) (by omega)) rfl ?_
   refine d_w rfl (fun _ => zBj rfl rfl rfl rfl (by omega) (by omega)) rfl ?_
   refine zC9 rfl ?_
   refine zAs zAb call34 rfl rfl rfl rfl (c34 _ _ x hxl hxs.cons.cons.cons hxr _ g5) ?_
   rintro _ gJ ⟨rfl, g4⟩
   refine zAe (qn ⟨g4, ?_⟩)
   refine d_w rfl (fun _ => y_rem rfl rfl rfl rfl (by omega) (by omega)) rfl ?_
   refine d_w rfl (fun _ => zBj rfl rfl rfl rfl (by omega) (by omega)) rfl ?_
   refine d_w rfl (fun _ => zD3 rfl rfl) rfl ?_
   refine zB0 ?_
   refine zAc (go _ _ (zAf (fun gK gp => (zAf (fun gL gq => (zAa (w_p (zAi (v := .slice _ _ _) rfl rfl) rfl (zBa rfl rfl (w_p (zBc underlying34 sizeOf3 rfl rfl rfl rfl (i := _) rfl (by omega)) rfl ?_)))))))))
   refine w_p (zAj isAgg3 g4.tail.tail.tail rfl rfl hzl) rfl (w_p (zBw rfl rfl rfl rfl) rfl (zAe (zAc (gq _ _ (zAy rfl rfl (fun gb => ?_) (fun gb => ?_))))))
   ·
    try simp only [zS] at gb
    refine zBq (zAo (zA8 (zAc (ga _ _ (zAa (zBa rfl rfl (w_p (zBj rfl rfl rfl rfl (by omega) (by omega)) rfl (zBl rfl rfl (zAe (zAc (g8 _ _ (nxI (p.farms.length - (i + 1)) (by omega) ?_))))))))))))
    first
      | exact ⟨i + 1, t, (by rw [trU_never hi2 (by assumption), ht]), rfl, by omega, rfl, g4.tail⟩
      | exact ⟨i + 1, (t.1 + ownH p.farms[i] (turnOf x i), t.2), (by rw [trU_fresh hi2 (by assumption) (by assumption), ht]), rfl, by omega, rfl, g4.tail⟩
      | exact ⟨i + 1, (t.1, t.2 + ownH p.farms[i] (turnOf x i)), (by rw [trU_vain hi2 (by assumption) (by assumption), ht]), rfl, by omega, rfl, g4.tail⟩
   try simp only [zS] at gb
   refine zAv (zAc (gp _ _ (zAf (fun gM gr => (zCs [] [(0,0),(1,1),(2,0),(3,0),(4,1),(5,0),(6,0),(7,0),(8,1),(9,0),(10,0),(11,1),(12,0),(13,0),(14,2)] zCg (by kernel_rfl) g4 (fun gN g6 => ?_))))))
   refine d_w rfl (fun _ => zAd (o := 3) (i := 2) underlying26 rfl sizeOf24 rfl rfl rfl) rfl ?_
   refine zBh rfl zAb rfl g6 (fun _ hq => (zAj isAgg24 hq rfl rfl (zAh (i := 2) (vs := [_]) rfl rfl))) ?_
   refine d_w rfl (fun _ => zA1 rfl rfl) rfl ?_
   refine d_w rfl (fun _ => zBc underlying24 sizeOf46 rfl rfl rfl rfl (i := _) rfl (by omega)) rfl ?_
   refine zBh rfl zAb rfl g6 (fun _ hq => (zA7 (vs := [_,_,_,_,_,_]) isAgg46 sizeOf46 hq.tail.tail.tail rfl rfl hx)) ?_
   refine d_w rfl (fun _ => zAi (v := .slice _ _ _) rfl rfl) rfl ?_
   refine d_w rfl (fun _ => zA1 rfl rfl) rfl ?_
   refine d_w rfl (fun _ => zBc underlying34 sizeOf3 rfl rfl rfl rfl (i := _) rfl (by omega)) rfl ?_
   refine zBh rfl zAb rfl g6 (fun _ hq => (zAj isAgg3 hq.tail.tail.tail rfl rfl hzl)) ?_
   refine d_w rfl (fun _ => zAd (o := 1) (i := 1) underlying26 rfl sizeOf23 rfl rfl rfl) rfl ?_
   refine d_w rfl (fun _ => zAd (o := 0) (i := 0) underlying23 rfl sizeOf3 rfl rfl rfl) rfl ?_
   refine zBh rfl zAb rfl g6 (fun _ hq => (zAj isAgg3 hq rfl rfl (zAh (i := 2) (vs := [_]) rfl rfl))) ?_
   refine d_w rfl (fun _ => zA1 rfl rfl) rfl ?_
   refine d_w rfl (fun _ => zBj rfl rfl rfl rfl (by omega) (by omega)) rfl ?_
   refine zC9 rfl ?_
   refine zAs zAb call9 rfl rfl rfl rfl (c9 _ _ _ hfo3 (by omega) (by omega) (by omega) (by omega) g6) ?_
   rintro _ gO ⟨rfl, g0⟩
   refine zAe (qn ⟨g0, ?_⟩)
   refine zB0 ?_
   refine zAc (gr _ _ (zAy rfl rfl (fun gc => ?_) (fun gc => ?_)))
   ·
    try simp only [zS] at gc
    refine zAa (zBa rfl rfl (zBa rfl rfl (w_p (zBj rfl rfl rfl rfl (by omega) (by omega)) rfl (zBl rfl rfl (zAe (zAl (zAc (ga _ _ (zAa (zBa rfl rfl (w_p (zBj rfl rfl rfl rfl (by omega) (by omega)) rfl ?_)))))))))))
    refine zBl rfl rfl (zAe (zAc (g8 _ _ (nxI (p.farms.length - (i + 1)) (by omega) ?_))))
    first
      | exact ⟨i + 1, t, (by rw [trU_never hi2 (by assumption), ht]), rfl, by omega, rfl, g0.tail⟩
      | exact ⟨i + 1, (t.1 + ownH p.farms[i] (turnOf x i), t.2), (by rw [trU_fresh hi2 (by assumption) (by assumption), ht]), rfl, by omega, rfl, g0.tail⟩
      | exact ⟨i + 1, (t.1, t.2 + ownH p.farms[i] (turnOf x i)), (by rw [trU_vain hi2 (by assumption) (by assumption), ht]), rfl, by omega, rfl, g0.tail⟩
   try simp only [zS] at gc
   refine zAa (zBa rfl rfl (zBa rfl rfl (w_p (zBj rfl rfl rfl rfl (by omega) (by omega)) rfl (zBl rfl rfl (zAe (zAl (zAc (ga _ _ (zAa (zBa rfl rfl (w_p (zBj rfl rfl rfl rfl (by omega) (by omega)) rfl ?_)))))))))))
   refine zBl rfl rfl (zAe (zAc (g8 _ _ (nxI (p.farms.length - (i + 1)) (by omega) ?_))))
   first
     | exact ⟨i + 1, t, (by rw [trU_never hi2 (by assumption), ht]), rfl, by omega, rfl, g0.tail⟩
     | exact ⟨i + 1, (t.1 + ownH p.farms[i] (turnOf x i), t.2), (by rw [trU_fresh hi2 (by assumption) (by assumption), ht]), rfl, by omega, rfl, g0.tail⟩
     | exact ⟨i + 1, (t.1, t.2 + ownH p.farms[i] (turnOf x i)), (by rw [trU_vain hi2 (by assumption) (by assumption), ht]), rfl, by omega, rfl, g0.tail⟩
  try simp only [zS] at g9
  refine zBq (zAo (zAo (zA8 (zAc (gh _ _ (zAf (fun gP gt => (zAa (zBa rfl rfl (zBa rfl rfl (zBa rfl rfl (zBl rfl rfl (zBl rfl rfl (zBl rfl rfl ?_))))))))))))))
  refine zAe (zAc (gt _ _ (zA2 (zA9 (l := [.tmp 6, .tmp 7, .tmp 8]) (vs := [_,_,_]) rfl ⟨⟨rfl, (rfl : _ = Value.int _ _)⟩, ⟨rfl, (rfl : _ = Value.int _ _)⟩, ⟨rfl, (rfl : _ = Value.int _ _)⟩, trivial⟩ ?_))))
  have hil : i = p.farms.length := by omega
  subst hil
  exact ⟨by rw [ht]; rfl, hs.tail.tail⟩

end Go.Proofs.Cb
/- Plain words of the hand layer: lots, their errors, their ways. No conditions. -/
namespace Go.Rt.Ha
structure Grade where
  name : ByteArray
  hands : Int
  scars : Int
structure Bunch where
  lo : Int
  hi : Int
  slo : Int
  shi : Int
structure Count where
  bits : Int
  hands : Int
structure Lot where
  grades : List Grade
  bunches : List Bunch
  counts : List Count
def Grade.cells (g : Grade) : List Value := [.string g.name, .int .i64 g.hands, .int .i64 g.scars]
def Bunch.cells (b : Bunch) : List Value := [.int .i64 b.lo, .int .i64 b.hi, .int .i64 b.slo, .int .i64 b.shi]
def Count.cells (c : Count) : List Value := [.int .i64 c.bits, .int .i64 c.hands]
structure At3 where
  ag : Option Addr
  cg : Nat
  ab : Option Addr
  cb : Nat
  ac : Option Addr
  cc : Nat
def Lot.cells (l : Lot) (p : At3) : List Value := [.slice p.ag l.grades.length p.cg, .slice p.ab l.bunches.length p.cb, .slice p.ac l.counts.length p.cc]
def grows (l : List Grade) : List (List Value) := l.map Grade.cells
def brows (l : List Bunch) : List (List Value) := l.map Bunch.cells
def crows (l : List Count) : List (List Value) := l.map Count.cells
def firstE {α : Type} (err : List α → α → Int) : List α → Int → List α → Int × Int
  | _,_, [] => (0,0)
  | b, i, x :: l => if err b x = 0 then firstE err (b ++ [x]) (i + 1) l else (i, err b x)
theorem zBv {α : Type} {err : List α → α → Int} {l : List α} {i : Nat} (hi : i < l.length) (h : err (l.take i) l[i] = 0) : firstE err (l.take i) i (l.drop i) = firstE err (l.take (i + 1)) (i + 1 : Nat) (l.drop (i + 1)) := by
  rw [List.drop_eq_getElem_cons hi]
  simp only [firstE, h, if_true]
  rw [List.take_succ_eq_append_getElem hi]; rfl
theorem zBf {α : Type} {err : List α → α → Int} {l : List α} {i : Nat} (hi : i < l.length) (h : err (l.take i) l[i] ≠ 0) : firstE err (l.take i) i (l.drop i) = ((i : Int), err (l.take i) l[i]) := by
  rw [List.drop_eq_getElem_cons hi]
  simp only [firstE, if_neg h]
theorem zBo {α : Type} {err : List α → α → Int} {l : List α} {i : Nat} (hi : l.length ≤ i) (b : List α) : firstE err b i (l.drop i) = (0,0) := by
  rw [List.drop_of_length_le hi]; rfl
def nameE (before : List ByteArray) (s : ByteArray) : Int := if nmOk s then (if has before s then 5 else 0) else 6
def notBelow (before : List Grade) (g : Grade) : Bool := match before.getLast? with | none => false | some q => decide (q.hands ≤ g.hands) || decide (g.scars < q.scars)
def gradeE (before : List Grade) (g : Grade) : Int := if nameE (before.map (·.name)) g.name ≠ 0 then nameE (before.map (·.name)) g.name else if out 1 12 g.hands || out 0 9 g.scars then 7 else if notBelow before g then 2 else 0
def bunchE (_before : List Bunch) (b : Bunch) : Int := if out 1 12 b.lo || out 1 12 b.hi || (out 0 9 b.slo || out 0 9 b.shi) then 7 else if out 0 3 (b.hi - b.lo) || decide (b.shi < b.slo) then 2 else 0
def countE (n : Nat) (_before : List Count) (c : Count) : Int := if out 1 (2 ^ n - 1) c.bits then 4 else if out 0 72 c.hands then 7 else 0
def failE {α : Type} (err : List α → α → Int) (lo most : Int) (l : List α) : Int × Int := if out lo most l.length then (0,3) else firstE err [] 0 l
def check (l : Lot) : Int × Int × Int :=
  if (failE gradeE 1 4 l.grades).2 ≠ 0 then (1, failE gradeE 1 4 l.grades) else if (failE bunchE 0 6 l.bunches).2 ≠ 0 then (2, failE bunchE 0 6 l.bunches) else if (failE (countE l.bunches.length) 0 4 l.counts).2 ≠ 0 then (3, failE (countE l.bunches.length) 0 4 l.counts) else (0,0,0)
def upto (lo : Int) : Nat → List Int
  | 0 => []
  | n + 1 => lo :: upto (lo + 1) n
def spanL (lo hi : Int) : List Int := upto lo (hi + 1 - lo).toNat
def felt : List Bunch → List (List Int)
  | [] => [[]]
  | b :: l => (spanL b.lo b.hi).flatMap fun n => (felt l).map (n :: ·)
def bit (b j : Nat) : Nat := (b >>> j) &&& 1
def counted (bits : Nat) : Nat → List Int → Int
  | _, [] => 0
  | i, h :: l => (if bit bits i = 1 then h else 0) + counted bits (i + 1) l
def soFrom (but : Nat) (h : List Int) : Nat → List Count → Bool
  | _, [] => true
  | i, c :: l => (decide (bit but i = 1) || decide (counted c.bits.toNat 0 h = c.hands)) && soFrom but h (i + 1) l
def ways (l : Lot) (but : Nat) : List (List Int) := (felt l.bunches).filter fun h => soFrom but h 0 l.counts
def ofG : List Grade → Int → Int → Int → Int
  | [], _,_, _ => -1
  | g :: l, i, h, s => if g.hands ≤ h ∧ s ≤ g.scars then i else ofG l (i + 1) h s
def orG (gs : List Grade) (h : Int) : List Int → Nat
  | [] => 0
  | s :: l => 1 <<< (ofG gs 0 h s + 1).toNat ||| orG gs h l
def gradesB (l : Lot) (b : Bunch) (h : Int) : Nat := orG l.grades h (spanL b.slo b.shi)
end Go.Rt.Ha
/- Plain words of the hand layer: what the program's functions return. No conditions. -/
namespace Go.Rt.Ha
def idxE (n : Int) (below : Nat) : Int := if out 0 (below - 1) n then 4 else 0
def enterE (l : Lot) (e : Int) : Int := if (check l).2.2 ≠ 0 then (check l).2.2 else if e ≠ 0 then e else if ways l 0 = [] then 8 else 0
def at_ (h : List Int) (b : Nat) : Int := h.getD b 0
def joinS (b : Nat) (s : Int × Int) (h : List Int) : Int × Int := (min s.1 (at_ h b), max s.2 (at_ h b))
def spanW (b : Nat) (ws : List (List Int)) : Int × Int := ws.foldl (joinS b) (12,0)
def bunchOf (l : Lot) (b : Nat) : Bunch := l.bunches.getD b ⟨0,0,0,0⟩
def setW (l : Lot) (b : Nat) (ws : List (List Int)) : Nat := ws.foldl (fun s h => s ||| gradesB l (bunchOf l b) (at_ h b)) 0
def handsP (l : Lot) (b : Int) : (Int × Int) × Int := if enterE l (idxE b l.bunches.length) ≠ 0 then ((0,0), enterE l (idxE b l.bunches.length)) else (spanW b.toNat (ways l 0), 0)
def listL (b : Nat) : Nat → List Int
  | 0 => []
  | n + 1 => listL b n ++ if bit b n = 1 then [(n : Int)] else []
def gradeP (l : Lot) (b : Int) : List Int × Int := if enterE l (idxE b l.bunches.length) ≠ 0 then ([], enterE l (idxE b l.bunches.length)) else ((listL (setW l b.toNat (ways l 0)) (l.grades.length + 1)).map (· - 1), 0)
def sumsTo (l : Lot) (g : Nat) (h : List Int) : Nat → Int × Int
  | 0 => (0,0)
  | k + 1 => let s := sumsTo l g h k; let z := gradesB l (bunchOf l k) (at_ h k)
    if z = 2 <<< g then (s.1 + at_ h k, s.2 + at_ h k) else if bit z (g + 1) = 1 then (s.1, s.2 + at_ h k) else s
def sums (l : Lot) (g : Nat) (h : List Int) : Int × Int := sumsTo l g h l.bunches.length
def totalW (l : Lot) (g : Nat) (ws : List (List Int)) : Int × Int := ws.foldl (fun s h => (min s.1 (sums l g h).1, max s.2 (sums l g h).2)) (72,0)
def totalP (l : Lot) (g : Int) : (Int × Int) × Int := if enterE l (idxE g l.grades.length) ≠ 0 then ((0,0), enterE l (idxE g l.grades.length)) else (totalW l g.toNat (ways l 0), 0)
def sureTo (l : Lot) (ws : List (List Int)) : Nat → List Int
  | 0 => []
  | k + 1 => sureTo l ws k ++ if setW l k ws = 1 then [(k : Int)] else []
def mayTo (l : Lot) (ws : List (List Int)) : Nat → List Int
  | 0 => []
  | k + 1 => mayTo l ws k ++ if setW l k ws &&& 1 = 1 then [(k : Int)] else []
def refusedP (l : Lot) : List Int × List Int × Int := if enterE l 0 ≠ 0 then ([], [], enterE l 0) else (sureTo l (ways l 0) l.bunches.length, mayTo l (ways l 0) l.bunches.length, 0)
def before (a b : List Int) : Bool := decide (a.length < b.length) || (decide (a.length = b.length) && less a b)
def fewStep (do_ : Nat → Bool) (n : Nat) (s : List Int × Bool) (b : Nat) : List Int × Bool := if s.2 && before s.1 (listL b n) then s else if do_ b then (listL b n, true) else s
def fewTo (do_ : Nat → Bool) (n : Nat) : Nat → List Int × Bool
  | 0 => ([], false)
  | k + 1 => fewStep do_ n (fewTo do_ n k) k
def fewest (do_ : Nat → Bool) (n : Nat) : List Int × Bool := fewTo do_ n (1 <<< n)
def fitTo (l : Lot) (g : Nat) (ws : List (List Int)) : Nat → Nat
  | 0 => 0
  | k + 1 => if setW l k ws &&& 1 = 1 ∨ 0 < setW l k ws >>> (g + 2) then fitTo l g ws k else fitTo l g ws k ||| 1 <<< k
def someOf (h : List Int) : List Int → Int
  | [] => 0
  | b :: r => at_ h b.toNat + someOf h r
def bitDiff (a b : Nat) : Nat := a &&& (a ^^^ b)
def pickDo (l : Lot) (g : Nat) (many : Int) (b : Nat) : Bool := decide (bitDiff b (fitTo l g (ways l 0) l.bunches.length) = 0) && (ways l 0).all fun h => decide (many ≤ someOf h (listL b l.bunches.length))
def pickE (l : Lot) (g many : Int) : Int := if idxE g l.grades.length ≠ 0 then idxE g l.grades.length else if out 0 72 many then 7 else 0
def pickP (l : Lot) (g many : Int) : List Int × Int :=
  if enterE l (pickE l g many) ≠ 0 then ([], enterE l (pickE l g many)) else
  if (fewest (pickDo l g.toNat many) l.bunches.length).2 then ((fewest (pickDo l g.toNat many) l.bunches.length).1,0) else ([], 9)
def often (b : Nat) (n : Int) (ws : List (List Int)) : Int := (ws.filter fun h => decide (at_ h b = n)).length
def mostTo (b : Nat) (ws : List (List Int)) : Nat → Int
  | 0 => 0
  | k + 1 => max (mostTo b ws k) (often b k ws)
def leftW (b : Nat) (ws : List (List Int)) : Int := mostTo b ws 13
def nextTo (ws : List (List Int)) : Nat → Int × Int
  | 0 => (-1,0)
  | k + 1 => let s := nextTo ws k
    if leftW k ws < ws.length ∧ (s.1 < 0 ∨ leftW k ws < s.2) then ((k : Int), leftW k ws) else s
def nextP (l : Lot) : Int × Int × Int := if enterE l 0 ≠ 0 then (0,0, enterE l 0) else if (nextTo (ways l 0) l.bunches.length).1 < 0 then (0,0,9) else ((nextTo (ways l 0) l.bunches.length).1, (nextTo (ways l 0) l.bunches.length).2,0)
def wrongP (l : Lot) : List Int × Int := if (check l).2.2 ≠ 0 then ([], (check l).2.2) else ((fewest (fun b => !(ways l b).isEmpty) l.counts.length).1,0)
end Go.Rt.Ha
/- Plain words of lists in their order, and of all sets of some numbers, for all layers. No conditions. -/
namespace Go.Rt
def hasI (l : List Int) (z : Int) : Bool := l.any fun y => decide (y = z)
def othersTo (l : List Int) : Nat → List Int
  | 0 => []
  | i + 1 => if hasI l i then othersTo l i else othersTo l i ++ [(i : Int)]
def leastN (x : List Int) : Int := match x.getLast? with | none => 0 | some z => z + 1
def nextTo (x : List Int) (n : Nat) : List (List Int) := ((List.range n).filter fun q : Nat => decide (leastN x ≤ (q : Int))).map fun q : Nat => x ++ [(q : Int)]
def choices (below : Nat) : Nat → List (List Int)
  | 0 => [[]]
  | i + 1 => (choices below i).flatMap fun x => nextTo x below
def chTo (below i k : Nat) : List (List Int) := ((choices below i).take k).flatMap fun x => nextTo x below
def pickL (shops l : List Int) : List Int := l.map fun z => shops.getD z.toNat 0
def setsMany (shops : List Int) (many : Nat) : List (List Int) := (choices shops.length many).map (pickL shops)
def setsTo (shops : List Int) : Nat → List (List Int)
  | 0 => []
  | k + 1 => setsTo shops k ++ setsMany shops k
def setsL (shops : List Int) : List (List Int) := setsTo shops (shops.length + 1)
namespace Ls
def before (a b : List Int) : Bool := decide (a.length < b.length) || (decide (a.length = b.length) && less a b)
end Ls
end Go.Rt
/- Plain laws of the hand layer: the first of the fewest. No conditions. -/
namespace Go.Rt.Ha
structure FewS (do_ : Nat → Bool) (n k : Nat) (s : List Int × Bool) : Prop where
  no : s.2 = false → s.1 = [] ∧ ∀ b < k, do_ b = false
  yes : s.2 = true → ∃ b, b < k ∧ do_ b = true ∧ s.1 = listL b n ∧ ∀ c < k, do_ c = true → listL c n = s.1 ∨ before s.1 (listL c n) = true
end Go.Rt.Ha
/- Plain laws of the hand layer: grades as lists and as bits, spans, sums. No conditions. -/
namespace Go.Rt.Ha
def gStep (gs : List Grade) (h : Int) (out : List Int) (s : Int) : List Int := if hasI out (ofG gs 0 h s) then out else out ++ [ofG gs 0 h s]
def gradesL (gs : List Grade) (h : Int) (ss : List Int) : List Int := ss.foldl (gStep gs h) []
def onlyG (l : List Int) (g : Int) : Bool := decide (l.length = 1) && decide (l.getD 0 0 = g)
def scarsOf (l : Lot) (b : Nat) : List Int := spanL (bunchOf l b).slo (bunchOf l b).shi
def couldR (l : Lot) (ws : List (List Int)) (b : Nat) (g : Int) : Bool := ws.any fun h => hasI (gradesL l.grades (at_ h b) (scarsOf l b)) g
def mustR (l : Lot) (ws : List (List Int)) (b : Nat) (g : Int) : Bool := ws.all fun h => onlyG (gradesL l.grades (at_ h b) (scarsOf l b)) g
def gradeTo (l : Lot) (ws : List (List Int)) (b : Nat) : Nat → List Int
  | 0 => []
  | k + 1 => gradeTo l ws b k ++ if couldR l ws b ((k : Int) - 1) then [(k : Int) - 1] else []
def spanR (b : Nat) : List (List Int) → Int × Int
  | [] => (0,0)
  | h :: r => r.foldl (joinS b) (at_ h b, at_ h b)
end Go.Rt.Ha
/- Plain laws of the hand layer: lots that are, their ways, totals. No conditions. -/
namespace Go.Rt.Ha
structure Lot.Ok (l : Lot) : Prop where
  lg : 1 ≤ l.grades.length ∧ l.grades.length ≤ 4
  lb : l.bunches.length ≤ 6
  lc : l.counts.length ≤ 4
  grade : ∀ g ∈ l.grades, 1 ≤ g.hands ∧ g.hands ≤ 12 ∧ 0 ≤ g.scars ∧ g.scars ≤ 9
  bunch : ∀ b ∈ l.bunches, 1 ≤ b.lo ∧ b.lo ≤ b.hi ∧ b.hi ≤ 12 ∧ b.hi - b.lo ≤ 3 ∧ 0 ≤ b.slo ∧ b.slo ≤ b.shi ∧ b.shi ≤ 9
  count : ∀ c ∈ l.counts, 1 ≤ c.bits ∧ c.bits ≤ 2 ^ l.bunches.length - 1 ∧ 0 ≤ c.hands ∧ c.hands ≤ 72
theorem firstE_zero {α : Type} (err : List α → α → Int) : ∀ (l b : List α) (i : Int), (firstE err b i l).2 = 0 → ∀ k (h : k < l.length), err (b ++ l.take k) l[k] = 0
  | [], _,_,_, k, h => by simp at h
  | x :: l, b, i, h, k, hk => by
    unfold firstE at h
    by_cases he : err b x = 0
    · rw [if_pos he] at h
      match k with
      | 0 => simpa using he
      | k + 1 =>
        have := firstE_zero err l (b ++ [x]) (i + 1) h k (by simpa using hk)
        simpa using this
    · rw [if_neg he] at h
      exact absurd h he
theorem zEq {α : Type} {err : List α → α → Int} {lo most : Int} {l : List α} (h : (failE err lo most l).2 = 0) : (lo ≤ l.length ∧ (l.length : Int) ≤ most) ∧ ∀ k (h : k < l.length), err (l.take k) l[k] = 0 := by
  unfold failE at h
  split at h
  · cases h
  · rename_i ho
    unfold out at ho
    simp only [Bool.or_eq_true, decide_eq_true_eq, not_or] at ho
    exact ⟨by omega, fun k hk => by simpa using firstE_zero err l [] 0 h k hk⟩
theorem zF0 {l : Lot} (h : (check l).2.2 = 0) : (failE gradeE 1 4 l.grades).2 = 0 ∧ (failE bunchE 0 6 l.bunches).2 = 0 ∧ (failE (countE l.bunches.length) 0 4 l.counts).2 = 0 := by
  unfold check at h
  split at h
  · rename_i h1; exact absurd h h1
  · rename_i h1
    split at h
    · rename_i h2; exact absurd h h2
    · rename_i h2
      split at h
      · rename_i h3; exact absurd h h3
      · rename_i h3
        exact ⟨by omega, by omega, by omega⟩
theorem check_ok {l : Lot} (h : (check l).2.2 = 0) : l.Ok := by
  obtain ⟨h1, h2, h3⟩ := zF0 h
  have h1 := zEq h1
  have h2 := zEq h2
  have h3 := zEq h3
  refine ⟨by omega, by omega, by omega, fun g hg => ?_, fun b hb => ?_, fun c hc => ?_⟩
  · obtain ⟨k, hk, rfl⟩ := List.getElem_of_mem hg
    have := h1.2 k hk
    unfold gradeE out at this
    split at this
    · rename_i h; exact absurd this h
    · split at this
      · cases this
      · rename_i h
        simp only [Bool.or_eq_true, decide_eq_true_eq, not_or] at h
        omega
  · obtain ⟨k, hk, rfl⟩ := List.getElem_of_mem hb
    have := h2.2 k hk
    unfold bunchE out at this
    split at this
    · cases this
    · rename_i h
      simp only [Bool.or_eq_true, decide_eq_true_eq, not_or] at h
      split at this
      · cases this
      · rename_i h'
        simp only [Bool.or_eq_true, decide_eq_true_eq, not_or] at h'
        omega
  · obtain ⟨k, hk, rfl⟩ := List.getElem_of_mem hc
    have := h3.2 k hk
    unfold countE out at this
    split at this
    · cases this
    · rename_i h
      simp only [Bool.or_eq_true, decide_eq_true_eq, not_or] at h
      split at this
      · cases this
      · rename_i h'
        simp only [Bool.or_eq_true, decide_eq_true_eq, not_or] at h'
        omega
theorem upto_mem : ∀ (n : Nat) (lo z : Int), z ∈ upto lo n ↔ lo ≤ z ∧ z < lo + n
  | 0, lo, z => by simp [upto]
  | n + 1, lo, z => by
    rw [upto, List.mem_cons, upto_mem n (lo + 1) z]
    omega
theorem zCi {lo hi z : Int} : z ∈ spanL lo hi ↔ lo ≤ z ∧ z ≤ hi := by
  unfold spanL; rw [upto_mem]; omega
theorem zIr : ∀ (bs : List Bunch) (h : List Int), h ∈ felt bs ↔ h.length = bs.length ∧ ∀ i (hi : i < bs.length), bs[i].lo ≤ at_ h i ∧ at_ h i ≤ bs[i].hi
  | [], h => by simp [felt]
  | b :: bs, h => by
    simp only [felt, List.mem_flatMap, List.mem_map]
    constructor
    · rintro ⟨n, hn, r, hr, rfl⟩
      have ih := (zIr bs r).1 hr
      refine ⟨by simp [ih.1], fun i hi => ?_⟩
      cases i with
      | zero => exact zCi.1 hn
      | succ i => exact ih.2 i (by simpa using hi)
    · rintro ⟨h1, h2⟩
      cases h with
      | nil => simp at h1
      | cons n r =>
        refine ⟨n, zCi.2 (h2 0 (by simp)), r, (zIr bs r).2 ⟨by simpa using h1, fun i hi => h2 (i + 1) (by simpa using hi)⟩, rfl⟩
def sumsR (l : Lot) (g : Int) (h : List Int) : Nat → Int × Int
  | 0 => (0,0)
  | k + 1 => let s := sumsR l g h k; let z := gradesL l.grades (at_ h k) (scarsOf l k)
    if hasI z g then ((if z.length = 1 then s.1 + at_ h k else s.1), s.2 + at_ h k) else s
def totStepR (l : Lot) (g : Int) (s : Int × Int) (h : List Int) : Int × Int := (min (min s.1 (sumsR l g h l.bunches.length).1) (sumsR l g h l.bunches.length).2, max (max s.2 (sumsR l g h l.bunches.length).1) (sumsR l g h l.bunches.length).2)
def totalR (l : Lot) (g : Int) (ws : List (List Int)) : Int × Int := ws.foldl (totStepR l g) (72,0)
end Go.Rt.Ha
/- Plain laws of the hand layer: Pick, Next and Wrong, as the reference has them. No conditions. -/
namespace Go.Rt.Ha
def noneTo (l : Lot) (ws : List (List Int)) (b g : Nat) : Nat → Bool
  | 0 => !couldR l ws b (-1)
  | k + 1 => noneTo l ws b g k && !couldR l ws b ((g : Int) + 1 + k)
def fitR (l : Lot) (ws : List (List Int)) (g : Nat) : Nat → List Int
  | 0 => []
  | b + 1 => fitR l ws g b ++ if noneTo l ws b g (l.grades.length - (g + 1)) then [(b : Int)] else []
def leastR (ws : List (List Int)) (own : List Int) : Int := ws.foldl (fun s h => min s (someOf h own)) 72
def pickR (l : Lot) (g many : Int) : List Int × Int :=
  if enterE l (pickE l g many) ≠ 0 then ([], enterE l (pickE l g many)) else
  match (setsL (fitR l (ways l 0) g.toNat l.bunches.length)).find? fun own => decide (many ≤ leastR (ways l 0) own) with | some x => (x, 0) | none => ([], 9)
def soR (but : List Int) (h : List Int) : Nat → List Count → Bool
  | _, [] => true
  | i, c :: l => (hasI but i || decide (counted c.bits.toNat 0 h = c.hands)) && soR but h (i + 1) l
def waysR (l : Lot) (but : List Int) : List (List Int) := (felt l.bunches).filter fun h => soR but h 0 l.counts
def choicesTo (n : Nat) : Nat → List (List Int)
  | 0 => []
  | k + 1 => choicesTo n k ++ choices n k
def wrongR (l : Lot) : List Int × Int := if (check l).2.2 ≠ 0 then ([], (check l).2.2) else
  match (choicesTo l.counts.length l.counts.length).find? fun x => !(waysR l x).isEmpty with | some x => (x, 0) | none => ((choices l.counts.length l.counts.length).getD 0 [], 0)
end Go.Rt.Ha
/- Plain laws of the hand layer: Hands, Grade, Total, Refused and Next, as the reference has them. No conditions. -/
namespace Go.Rt.Ha
structure SpanF (b : Nat) (ws : List (List Int)) (s : Int × Int) : Prop where
  all : ∀ h ∈ ws, s.1 ≤ at_ h b ∧ at_ h b ≤ s.2
  lo : ∃ h ∈ ws, at_ h b = s.1
  hi : ∃ h ∈ ws, at_ h b = s.2
def handsR (l : Lot) (b : Int) : (Int × Int) × Int := if enterE l (idxE b l.bunches.length) ≠ 0 then ((0,0), enterE l (idxE b l.bunches.length)) else (spanR b.toNat (ways l 0), 0)
def gradeR (l : Lot) (b : Int) : List Int × Int := if enterE l (idxE b l.bunches.length) ≠ 0 then ([], enterE l (idxE b l.bunches.length)) else (gradeTo l (ways l 0) b.toNat (l.grades.length + 1), 0)
def totR (l : Lot) (g : Int) : (Int × Int) × Int := if enterE l (idxE g l.grades.length) ≠ 0 then ((0,0), enterE l (idxE g l.grades.length)) else (totalR l g (ways l 0), 0)
def sureR (l : Lot) (ws : List (List Int)) : Nat → List Int
  | 0 => []
  | k + 1 => sureR l ws k ++ if mustR l ws k (-1) then [(k : Int)] else []
def mayR (l : Lot) (ws : List (List Int)) : Nat → List Int
  | 0 => []
  | k + 1 => mayR l ws k ++ if couldR l ws k (-1) then [(k : Int)] else []
def refusedR (l : Lot) : List Int × List Int × Int := if enterE l 0 ≠ 0 then ([], [], enterE l 0) else (sureR l (ways l 0) l.bunches.length, mayR l (ways l 0) l.bunches.length, 0)
def nextRTo (ws : List (List Int)) : Nat → Int × Int
  | 0 => (-1,0)
  | k + 1 => let s := nextRTo ws k
    if (spanR k ws).1 < (spanR k ws).2 ∧ (s.1 < 0 ∨ leftW k ws < s.2) then ((k : Int), leftW k ws) else s
def nextR (l : Lot) : Int × Int × Int := if enterE l 0 ≠ 0 then (0,0, enterE l 0) else if (nextRTo (ways l 0) l.bunches.length).1 < 0 then (0,0,9) else ((nextRTo (ways l 0) l.bunches.length).1, (nextRTo (ways l 0) l.bunches.length).2,0)
end Go.Rt.Ha
/- Plain words of the chain layer: boards, their errors, how counters fare, truths. No conditions. -/
namespace Go.Rt.Ch
open Go.Rt.Ha
structure Hour where
  hold : Int
  lo : Int
  hi : Int
structure Ctr where
  name : ByteArray
  skip : Int
  twice : Int
  start : Int
  zero : List Int
  shown : List Int
structure Board where
  holds : Int
  hours : List Hour
  ctrs : List Ctr
structure AtC where
  az : Option Addr
  cz : Nat
  «as» : Option Addr
  cs : Nat
structure AtB where
  ah : Option Addr
  ch : Nat
  ac : Option Addr
  cc : Nat
  pc : Nat → AtC
def Hour.cells (h : Hour) : List Value := [.int .i64 h.hold, .int .i64 h.lo, .int .i64 h.hi]
def Ctr.cells (c : Ctr) (p : AtC) : List Value := [.string c.name, .int .i64 c.skip, .int .i64 c.twice, .int .i64 c.start, .slice p.az c.zero.length p.cz, .slice p.as c.shown.length p.cs]
def Board.cells (b : Board) (p : AtB) : List Value := [.int .i64 b.holds, .slice p.ah b.hours.length p.ch, .slice p.ac b.ctrs.length p.cc]
def hrows (l : List Hour) : List (List Value) := l.map Hour.cells
def krows (l : List Ctr) (p : Nat → AtC) : List (List Value) := l.mapIdx fun i c => c.cells (p i)
def hourE (holds : Int) (_before : List Hour) (h : Hour) : Int := if out 0 (holds - 1) h.hold then 4 else if out 0 40 h.lo || out 0 40 h.hi then 7 else if out 0 3 (h.hi - h.lo) then 2 else 0
def ctrE (n : Nat) (before : List Ctr) (c : Ctr) : Int :=
  if nameE (before.map (·.name)) c.name ≠ 0 then nameE (before.map (·.name)) c.name else if (out 0 3 c.skip || out 0 3 c.twice) || out 0 99 c.start then 7 else if c.zero.length ≠ n ∨ c.shown.length ≠ n then 3 else if c.zero.any (out 0 2) || c.shown.any (out (-1) 99) then 7 else 0
def check (b : Board) : Int × Int × Int :=
  if out 1 3 b.holds then (1,0,7) else if (failE (hourE b.holds) 0 4 b.hours).2 ≠ 0 then (2, failE (hourE b.holds) 0 4 b.hours) else if (failE (ctrE b.hours.length) 0 2 b.ctrs).2 ≠ 0 then (3, failE (ctrE b.hours.length) 0 2 b.ctrs) else (0,0,0)
structure Way where
  counts : Int
  shows : Int
  zero : Bool
deriving DecidableEq
def Way.cells (w : Way) : List Value := [.int .i64 w.counts, .int .i64 w.shows, .bool w.zero]
def canZ (c : Ctr) (a : Nat) (z : Bool) : Bool := if z then decide (c.zero.getD a 0 ≠ 0) else decide (c.zero.getD a 0 ≠ 1)
def shOf (s : Int) (z : Bool) (k : Int) : Int := ((if z then 0 else s) + k) % 100
def wayR (c : Ctr) (a : Nat) (s : Int) (z : Bool) (k : Int) : List Way :=
  if c.shown.getD a 0 = -1 ∨ c.shown.getD a 0 = shOf s z k then [⟨k, shOf s z k, z⟩] else []
def waysZ (c : Ctr) (h : Hour) (a : Nat) (s : Int) (z : Bool) : List Way := if canZ c a z then (spanL (max 0 (h.lo - c.skip)) (h.hi + c.twice)).flatMap (wayR c a s z) else []
def waysC (c : Ctr) (h : Hour) (a : Nat) (s : Int) : List Way := waysZ c h a s false ++ waysZ c h a s true
def stepsZ (c : Ctr) (a : Nat) (s load : Int) (z : Bool) : List Way := if canZ c a z then (spanL (0 - c.skip) c.twice).flatMap fun e => if 0 ≤ load + e then wayR c a s z (load + e) else [] else []
def stepsC (c : Ctr) (a : Nat) (s load : Int) : List Way := stepsZ c a s load false ++ stepsZ c a s load true
abbrev Quest := Nat → Int → Way → Bool
def ld (l : List Int) (k : Nat) : Int := l.getD k 0
def fareTo (c : Ctr) (l : List Int) (q : Quest) : Nat → List (Int × Bool)
  | 0 => [(c.start, false)]
  | k + 1 => (fareTo c l q k).flatMap fun x => (stepsC c k x.1 (ld l k)).map fun w => (w.shows, x.2 || q k (ld l k) w)
def notF (c : Ctr) (l : List Int) (q : Quest) (n : Nat) : Bool := (fareTo c l q n).any fun x => !x.2
def metF (c : Ctr) (l : List Int) (q : Quest) (n : Nat) : Bool := (fareTo c l q n).any fun x => x.2
def slips : Quest := fun _ load w => decide (w.counts ≠ load)
def zeroed (a : Nat) : Quest := fun k _ w => decide (k = a) && w.zero
def bun (b : Board) : List Bunch := b.hours.map fun h => ⟨h.lo, h.hi, 0,0⟩
def canL (b : Board) (l : List Int) : Bool := b.ctrs.all fun c => notF c l slips b.hours.length || metF c l slips b.hours.length
def truths (b : Board) : List (List Int) := (felt (bun b)).filter (canL b)
def inTo (b : Board) (l : List Int) (hold : Int) : Nat → Int
  | 0 => 0
  | k + 1 => inTo b l hold k + if (b.hours.getD k ⟨0,0,0⟩).hold = hold then ld l k else 0
def inH (b : Board) (hold : Int) (l : List Int) : Int := inTo b l hold b.hours.length
def hullL (f : List Int → Int) : List (List Int) → Int × Int
  | [] => (0,0)
  | l :: r => r.foldl (fun s x => (min s.1 (f x), max s.2 (f x))) (f l, f l)
def enterE (b : Board) (e : Int) : Int := if (check b).2.2 ≠ 0 then (check b).2.2 else if e ≠ 0 then e else if truths b = [] then 8 else 0
def idxE (n below : Int) : Int := if out 0 (below - 1) n then 4 else 0
def wentP (b : Board) (a : Int) : (Int × Int) × Int := if enterE b (idxE a b.hours.length) ≠ 0 then ((0,0), enterE b (idxE a b.hours.length)) else (hullL (fun l => ld l a.toNat) (truths b), 0)
def holdP (b : Board) (h : Int) : (Int × Int) × Int := if enterE b (idxE h b.holds) ≠ 0 then ((0,0), enterE b (idxE h b.holds)) else (hullL (inH b h) (truths b), 0)
def toldN (not met : Bool) : Int := if not then (if met then 0 else 2) else 1
def ctrOf (b : Board) (c : Nat) : Ctr := b.ctrs.getD c ⟨ByteArray.empty, 0,0,0, [], []⟩
def askN (b : Board) (c : Nat) (q : Quest) : Bool := (truths b).any fun l => notF (ctrOf b c) l q b.hours.length
def askM (b : Board) (c : Nat) (q : Quest) : Bool := (truths b).any fun l => metF (ctrOf b c) l q b.hours.length
def rightP (b : Board) (c : Int) : Int × Int := if enterE b (idxE c b.ctrs.length) ≠ 0 then (0, enterE b (idxE c b.ctrs.length)) else (toldN (askM b c.toNat slips) (askN b c.toNat slips), 0)
def idx2 (c n a m : Int) : Int := if idxE c n ≠ 0 then idxE c n else idxE a m
def zeroP (b : Board) (c a : Int) : Int × Int :=
  if enterE b (idx2 c b.ctrs.length a b.hours.length) ≠ 0 then (0, enterE b (idx2 c b.ctrs.length a b.hours.length)) else (toldN (askN b c.toNat (zeroed a.toNat)) (askM b c.toNat (zeroed a.toNat)), 0)
def sameAt (set n : Nat) (l m : List Int) : Bool := (listL set n).all fun z => decide (ld l z.toNat = ld m z.toNat)
def tellsS (b : Board) (hold within : Int) (set : Nat) : Bool := (truths b).all fun l => decide ((hullL (inH b hold) ((truths b).filter (sameAt set b.hours.length l))).2 - (hullL (inH b hold) ((truths b).filter (sameAt set b.hours.length l))).1 ≤ within)
def looksE (b : Board) (hold within : Int) : Int := if idxE hold b.holds ≠ 0 then idxE hold b.holds else if within < 0 then 7 else 0
def looksP (b : Board) (hold within : Int) : List Int × Int := if enterE b (looksE b hold within) ≠ 0 then ([], enterE b (looksE b hold within)) else ((fewest (tellsS b hold within) b.hours.length).1,0)
def butC (n set i : Nat) (c : Ctr) : Ctr := { c with shown := (List.range c.shown.length).map fun k => if bit set (i * n + k) = 1 then -1 else c.shown.getD k 0 }
def butFrom (n set : Nat) : Nat → List Ctr → List Ctr
  | _, [] => []
  | i, c :: l => butC n set i c :: butFrom n set (i + 1) l
def butB (b : Board) (set : Nat) : Board := { b with ctrs := butFrom b.hours.length set 0 b.ctrs }
def shownAt (b : Board) (k : Nat) : Int := (ctrOf b (k / b.hours.length)).shown.getD (k % b.hours.length) 0
def wrongS (b : Board) (set : Nat) : Bool := ((List.range (b.hours.length * b.ctrs.length)).all fun k => !(decide (bit set k = 1) && decide (shownAt b k = -1))) && !(truths (butB b set)).isEmpty
def wrongP (b : Board) : List Int × Int := if (check b).2.2 ≠ 0 then ([], (check b).2.2) else ((fewest (wrongS b) (b.hours.length * b.ctrs.length)).1,0)
end Go.Rt.Ch
/- Plain facts of the chain layer: what a board without an error is like; ways by the load and whatever the load is. No conditions. -/
namespace Go.Rt.Ch
open Go.Rt.Ha
structure Hour.Ok (holds : Int) (h : Hour) : Prop where
  hold : 0 ≤ h.hold ∧ h.hold < holds
  lo : 0 ≤ h.lo
  le : h.lo ≤ h.hi
  hi : h.hi ≤ 40
  w : h.hi - h.lo ≤ 3
structure Ctr.Ok (n : Nat) (c : Ctr) : Prop where
  skip : 0 ≤ c.skip ∧ c.skip ≤ 3
  twice : 0 ≤ c.twice ∧ c.twice ≤ 3
  start : 0 ≤ c.start ∧ c.start ≤ 99
  lz : c.zero.length = n
  ls : c.shown.length = n
  zero : ∀ z ∈ c.zero, 0 ≤ z ∧ z ≤ 2
  shown : ∀ z ∈ c.shown, -1 ≤ z ∧ z ≤ 99
  nm : nmOk c.name = true
structure Board.Ok (b : Board) : Prop where
  holds : 1 ≤ b.holds ∧ b.holds ≤ 3
  lh : b.hours.length ≤ 4
  lc : b.ctrs.length ≤ 2
  hour : ∀ h ∈ b.hours, h.Ok b.holds
  ctr : ∀ c ∈ b.ctrs, c.Ok b.hours.length
theorem zD9 {lo hi n : Int} : out lo hi n = false ↔ lo ≤ n ∧ n ≤ hi := by
  unfold out
  rw [Bool.or_eq_false_iff, decide_eq_false_iff_not, decide_eq_false_iff_not]; omega
theorem hourE_zero {holds : Int} {bf : List Hour} {h : Hour} (e : hourE holds bf h = 0) : h.Ok holds := by
  unfold hourE at e
  cases h1 : out 0 (holds - 1) h.hold with
  | true => rw [h1, if_pos rfl] at e; cases e
  | false =>
    rw [h1, if_neg (by simp)] at e
    cases h2 : (out 0 40 h.lo || out 0 40 h.hi) with
    | true => rw [h2, if_pos rfl] at e; cases e
    | false =>
      rw [h2, if_neg (by simp)] at e
      cases h3 : out 0 3 (h.hi - h.lo) with
      | true => rw [h3, if_pos rfl] at e; cases e
      | false =>
        rw [Bool.or_eq_false_iff] at h2
        have a1 := zD9.1 h1
        have a2 := zD9.1 h2.1
        have a3 := zD9.1 h2.2
        have a4 := zD9.1 h3
        exact ⟨by omega, by omega, by omega, by omega, by omega⟩
theorem any_out {lo hi : Int} {l : List Int} (h : l.any (out lo hi) = false) : ∀ z ∈ l, lo ≤ z ∧ z ≤ hi := fun z hz => zD9.1 (by
  cases e : out lo hi z with
  | false => rfl
  | true => rw [List.any_eq_true.2 ⟨z, hz, e⟩] at h; cases h)
theorem ctrE_zero {n : Nat} {bf : List Ctr} {c : Ctr} (e : ctrE n bf c = 0) : c.Ok n := by
  unfold ctrE at e
  by_cases h0 : nameE (bf.map (·.name)) c.name = 0
  · rw [if_neg (by simp [h0])] at e
    cases h1 : ((out 0 3 c.skip || out 0 3 c.twice) || out 0 99 c.start) with
    | true => rw [h1, if_pos rfl] at e; cases e
    | false =>
      rw [h1, if_neg (by simp)] at e
      by_cases h2 : c.zero.length ≠ n ∨ c.shown.length ≠ n
      · rw [if_pos h2] at e; cases e
      · rw [if_neg h2] at e
        cases h3 : (c.zero.any (out 0 2) || c.shown.any (out (-1) 99)) with
        | true => rw [h3, if_pos rfl] at e; cases e
        | false =>
          rw [Bool.or_eq_false_iff, Bool.or_eq_false_iff] at h1
          rw [Bool.or_eq_false_iff] at h3
          have a1 := zD9.1 h1.1.1
          have a2 := zD9.1 h1.1.2
          have a3 := zD9.1 h1.2
          refine ⟨a1, a2, by omega, by omega, by omega, any_out h3.1, any_out h3.2, ?_⟩
          unfold nameE at h0
          cases hn : nmOk c.name with
          | true => rfl
          | false => rw [hn] at h0; simp at h0
  · rw [if_pos h0] at e; exact absurd e h0
theorem zF0 {b : Board} (h : (check b).2.2 = 0) : out 1 3 b.holds = false ∧ (failE (hourE b.holds) 0 4 b.hours).2 = 0 ∧ (failE (ctrE b.hours.length) 0 2 b.ctrs).2 = 0 := by
  unfold check at h
  cases h1 : out 1 3 b.holds with
  | true => rw [h1, if_pos rfl] at h; cases h
  | false =>
    rw [h1, if_neg (by simp)] at h
    by_cases h2 : (failE (hourE b.holds) 0 4 b.hours).2 = 0
    · rw [if_neg (by simp [h2])] at h
      by_cases h3 : (failE (ctrE b.hours.length) 0 2 b.ctrs).2 = 0
      · exact ⟨rfl, h2, h3⟩
      · rw [if_pos h3] at h; exact absurd h h3
    · rw [if_pos h2] at h; exact absurd h h2
theorem check_ok {b : Board} (h : (check b).2.2 = 0) : b.Ok := by
  obtain ⟨h1, h2, h3⟩ := zF0 h
  obtain ⟨l1, e1⟩ := zEq h2
  obtain ⟨l2, e2⟩ := zEq h3
  refine ⟨zD9.1 h1, by omega, by omega, fun x hx => ?_, fun x hx => ?_⟩
  · obtain ⟨i, hi, rfl⟩ := List.getElem_of_mem hx
    exact hourE_zero (e1 i hi)
  · obtain ⟨i, hi, rfl⟩ := List.getElem_of_mem hx
    exact ctrE_zero (e2 i hi)
theorem zI9 {c : Ctr} {a : Nat} {s k : Int} {z : Bool} {w : Way} (h : w ∈ wayR c a s z k) : w.counts = k ∧ 0 ≤ w.shows ∧ w.shows < 100 ∧ w.zero = z := by
  unfold wayR at h
  split at h
  · rw [List.mem_singleton] at h
    subst h
    exact ⟨rfl, Int.emod_nonneg _ (by decide), Int.emod_lt_of_pos _ (by decide), rfl⟩
  · cases h
theorem steps_ways {c : Ctr} {h : Hour} {a : Nat} {s load : Int} (hl : h.lo ≤ load ∧ load ≤ h.hi) (h0 : 0 ≤ h.lo) {w : Way} : w ∈ stepsC c a s load ↔ w ∈ waysC c h a s ∧ 0 - c.skip ≤ w.counts - load ∧ w.counts - load ≤ c.twice := by
  have key : ∀ z, w ∈ stepsZ c a s load z ↔ w ∈ waysZ c h a s z ∧ 0 - c.skip ≤ w.counts - load ∧ w.counts - load ≤ c.twice := by
    intro z
    unfold stepsZ waysZ
    cases canZ c a z with
    | false => simp
    | true =>
      simp only [if_true, List.mem_flatMap]
      constructor
      · rintro ⟨e, he, hw⟩
        have he := zCi.1 he
        split at hw
        · have hc := (zI9 hw).1
          exact ⟨⟨load + e, zCi.2 (by omega), hw⟩, by omega, by omega⟩
        · cases hw
      · rintro ⟨⟨k, hk, hw⟩, h1, h2⟩
        have hk := zCi.1 hk
        have hc := (zI9 hw).1
        refine ⟨k - load, zCi.2 (by omega), ?_⟩
        rw [if_pos (by omega), show load + (k - load) = k by omega]
        exact hw
  unfold stepsC waysC
  rw [List.mem_append, List.mem_append, key, key]
  constructor
  · rintro (h | h)
    · exact ⟨.inl h.1, h.2⟩
    · exact ⟨.inr h.1, h.2⟩
  · rintro ⟨h | h, h2⟩
    · exact .inl ⟨h, h2⟩
    · exact .inr ⟨h, h2⟩
theorem ways_in {c : Ctr} {h : Hour} {a : Nat} {s : Int} (hc : 0 ≤ c.twice ∧ c.twice ≤ 3) (hh : 0 ≤ h.lo ∧ h.hi ≤ 40) {w : Way} (hw : w ∈ waysC c h a s) : 0 ≤ w.counts ∧ w.counts ≤ 43 ∧ 0 ≤ w.shows ∧ w.shows < 100 := by
  have key : ∀ z, w ∈ waysZ c h a s z → 0 ≤ w.counts ∧ w.counts ≤ 43 ∧ 0 ≤ w.shows ∧ w.shows < 100 := by
    intro z hz
    unfold waysZ at hz
    split at hz
    · obtain ⟨k, hk, hw⟩ := List.mem_flatMap.1 hz
      have hk := zCi.1 hk
      have := zI9 hw
      omega
    · cases hz
  unfold waysC at hw
  rcases List.mem_append.1 hw with h | h
  · exact key _ h
  · exact key _ h
theorem steps_in {c : Ctr} {a : Nat} {s load : Int} {w : Way} (hw : w ∈ stepsC c a s load) : 0 ≤ w.shows ∧ w.shows < 100 := by
  have key : ∀ z, w ∈ stepsZ c a s load z → 0 ≤ w.shows ∧ w.shows < 100 := by
    intro z hz
    unfold stepsZ at hz
    split at hz
    · obtain ⟨k, hk, hw⟩ := List.mem_flatMap.1 hz
      split at hw
      · have := zI9 hw; omega
      · cases hw
    · cases hz
  unfold stepsC at hw
  rcases List.mem_append.1 hw with h | h
  · exact key _ h
  · exact key _ h
theorem zHa {c : Ctr} {n : Nat} (hc : c.Ok n) {l : List Int} {q : Quest} : ∀ (k : Nat) {x : Int × Bool}, x ∈ fareTo c l q k → 0 ≤ x.1 ∧ x.1 < 100
  | 0, x, h => by
    simp only [fareTo, List.mem_singleton] at h
    subst h
    have := hc.start
    exact ⟨this.1, by show c.start < 100; omega⟩
  | k + 1, x, h => by
    simp only [fareTo, List.mem_flatMap, List.mem_map] at h
    obtain ⟨y, _, w, hw, rfl⟩ := h
    exact steps_in hw
def enc (x : Int × Bool) : Int := x.1 + if x.2 then 100 else 0
theorem enc_mod {x : Int × Bool} (h : 0 ≤ x.1 ∧ x.1 < 100) : enc x % 100 = x.1 := by
  unfold enc; cases x.2 <;> simp <;> omega
theorem enc_ge {x : Int × Bool} (h : 0 ≤ x.1 ∧ x.1 < 100) : 100 ≤ enc x ↔ x.2 = true := by
  unfold enc; cases x.2 <;> simp <;> omega
end Go.Rt.Ch
/- The walking engine, part 10: bits of numbers, numbers within arrays of a struct, maps by structs of numbers. No conditions. -/
namespace Go.Rt
open Go.RowKit
section
variable {r : Option Nat} {P : Program} {ops : Array Oper} {Q : Exit → Act → World → Prop} {rest : List Oper} {n : Nat} {ρ : Nat → Value} {ds : List Deferred} {d : Option Tmp} {ty : TypeId} {p : String} {e : Array Edge} {g : Option (Nat × Bool)} {w w0 : World} {L : List (Nat × Obj)}
theorem ofI (a : Nat) (ha : a < 9223372036854775808) : (BitVec.ofInt 64 (a : Int)).toNat = a := by
  rw [BitVec.ofInt_natCast, BitVec.toNat_ofNat]; exact Nat.mod_eq_of_lt (by omega)
theorem y_and {t t2 : TypeId} {u v : Operand} {a b : Int} {x y : Nat} (ho : okO n u = true) (ho1 : okO n v = true) (hx : ev ρ u = .int .i64 a) (hy : ev ρ v = .int .i64 b) (ha : a = (x : Int)) (hb : b = (y : Int)) (h1 : x < 9223372036854775808) (h2 : y < 9223372036854775808) :
    Yd P (A n ρ ds) ⟨d, .binOp .and t u v t2, ty, p, e, g⟩ w (.int .i64 ((x &&& y : Nat) : Int)) := by
  subst ha hb
  refine zIc ho ho1 hx hy fun w => ?_
  have hle : x &&& y < 2 ^ 63 := Nat.and_lt_two_pow _ (by omega)
  have : Go.bits .and .i64 (x : Int) (y : Int) = ((x &&& y : Nat) : Int) := by
    show IntKind.i64.wrap ((BitVec.ofInt 64 (x : Int) &&& BitVec.ofInt 64 (y : Int)).toNat : Int) = _
    rw [BitVec.toNat_and, ofI x h1, ofI y h2, zG6 (by omega) (by omega)]
  rw [binOp_and, intBits_and, this]; rfl
def bitDiff (x y : Nat) : Nat := (BitVec.ofNat 64 x &&& ~~~(BitVec.ofNat 64 y)).toNat
theorem y_shr {t t2 : TypeId} {u v : Operand} {a b : Int} {x y : Nat} (ho : okO n u = true) (ho1 : okO n v = true) (hx : ev ρ u = .int .i64 a) (hy : ev ρ v = .int .i64 b) (ha : a = (x : Int)) (hb : b = (y : Int)) (h2 : y ≤ 60) :
    Yd P (A n ρ ds) ⟨d, .binOp .shr t u v t2, ty, p, e, g⟩ w (.int .i64 ((x >>> y : Nat) : Int)) := by
  subst ha hb
  refine zIc ho ho1 hx hy fun w => ?_
  rw [binOp_shr]
  unfold Op.shift
  have hb : IntKind.i64.bits = 64 := rfl
  rw [if_neg (by omega)]
  simp only [Int.toNat_natCast, hb, Nat.min_eq_left (show y ≤ 64 by omega), Sem.run_pure]
  congr 2
  rw [Int.fdiv_eq_ediv_of_nonneg _ (by exact_mod_cast Nat.zero_le _), Nat.shiftRight_eq_div_pow]
  norm_cast
theorem y_shl {t t2 : TypeId} {u v : Operand} {a b : Int} {x y : Nat} (ho : okO n u = true) (ho1 : okO n v = true) (hx : ev ρ u = .int .i64 a) (hy : ev ρ v = .int .i64 b) (ha : a = (x : Int)) (hb : b = (y : Int)) (h1 : x ≤ 1000) (h2 : y ≤ 40) :
    Yd P (A n ρ ds) ⟨d, .binOp .shl t u v t2, ty, p, e, g⟩ w (.int .i64 ((x <<< y : Nat) : Int)) := by
  subst ha hb
  refine zIc ho ho1 hx hy fun w => ?_
  rw [binOp_shl]
  unfold Op.shift
  have hb : IntKind.i64.bits = 64 := rfl
  rw [if_neg (by omega)]
  simp only [Int.toNat_natCast, hb, Nat.min_eq_left (show y ≤ 64 by omega), Sem.run_pure]
  have h3 : x * 2 ^ y ≤ 1000 * 2 ^ 40 := Nat.mul_le_mul h1 (Nat.pow_le_pow_right (by omega) h2)
  have h4 : (x : Int) * 2 ^ y = ((x * 2 ^ y : Nat) : Int) := by push_cast; rfl
  rw [h4, zG6 (by omega) (by omega), Nat.shiftLeft_eq]
theorem zFr {t : TypeId} {k o : Nat} (ha : ∀ w, (isAgg t).run P w = .ok true w) (hs : ∀ w, (sizeOf t).run P w = .ok k w) {l : List Int} : (part t (iv l).toArray o).run P w = .ok (ia ((l.drop o).take k)) w := by
  unfold part
  simp only [Sem.run_bind, ha, Result.andThen_ok, if_true, hs, Sem.run_pure]
  congr 2
  simp [iv, List.map_drop, List.map_take, List.extract_eq_take_drop]
def FF (P : Program) (f : Field) (k : Nat) : Prop := f.name ≠ "_" ∧ ((P.underlying f.type = some (.int .i64) ∧ k = 1) ∨ (flatInts P f.type k = true ∧ (∀ w, (isAgg f.type).run P w = .ok true w) ∧ ∀ w, (sizeOf f.type).run P w = .ok k w))
theorem zHy (dd : Nat) (l m : List Int) : ∀ (fs : List (Field × Nat)), (∀ q ∈ fs, FF P q.1 q.2 ∧ q.1.offset + q.2 ≤ l.length ∧ q.1.offset + q.2 ≤ m.length) →
    (Op.eqFields (dd + 2) (iv l).toArray (iv m).toArray (fs.map Prod.fst)).run P w = .ok (fs.all fun q => decide ((l.drop q.1.offset).take q.2 = (m.drop q.1.offset).take q.2)) w
  | [], _ => by simp [Op.eqFields]
  | q :: fs, hh => by
    obtain ⟨⟨hn, hff⟩, h1, h2⟩ := hh q (.head _)
    have ih := zHy dd l m fs fun j hj => hh j (.tail _ hj)
    have key : ∃ u v : Value, (part q.1.type (iv l).toArray q.1.offset).run P w = .ok u w ∧ (part q.1.type (iv m).toArray q.1.offset).run P w = .ok v w ∧ (Op.equalIn (dd + 2) q.1.type u v).run P w = .ok (decide ((l.drop q.1.offset).take q.2 = (m.drop q.1.offset).take q.2)) w := by
      rcases hff with ⟨hu, hk⟩ | ⟨hf, ha, hs⟩
      · have e1 : (iv l).toArray[q.1.offset]? = some (.int .i64 (l.getD q.1.offset 0)) := by simp [show q.1.offset < l.length by omega]
        have e2 : (iv m).toArray[q.1.offset]? = some (.int .i64 (m.getD q.1.offset 0)) := by simp [show q.1.offset < m.length by omega]
        refine ⟨_, _, zCz hu e1, zCz hu e2, ?_⟩
        rw [run_equalIn_int w (dd + 1) q.1.type .i64 .i64 _ _ hu, hk]
        congr 1
        rw [List.drop_eq_getElem_cons (show q.1.offset < l.length by omega), List.drop_eq_getElem_cons (show q.1.offset < m.length by omega)]
        simp only [List.take_succ_cons, List.take_zero, List.cons.injEq, and_true]
        have g1 : l.getD q.1.offset 0 = l[q.1.offset]'(by omega) := by simp [List.getD, show q.1.offset < l.length by omega]
        have g2 : m.getD q.1.offset 0 = m[q.1.offset]'(by omega) := by simp [List.getD, show q.1.offset < m.length by omega]
        rw [g1, g2]
        rfl
      · refine ⟨_, _, zFr ha hs, zFr ha hs, ?_⟩
        have hl1 : ((l.drop q.1.offset).take q.2).length = q.2 := by simp; omega
        have hl2 : ((m.drop q.1.offset).take q.2).length = q.2 := by simp; omega
        exact zDw dd (by rw [hl1]; exact hf) (by rw [hl1, hl2])
    obtain ⟨u, v, k1, k2, k3⟩ := key
    simp only [List.map_cons, Op.eqFields, hn, ne_eq, not_false_eq_true, if_true, Sem.run_bind, k1, k2, k3, Result.andThen_ok]
    simp only [List.all_cons]
    by_cases hv : (l.drop q.1.offset).take q.2 = (m.drop q.1.offset).take q.2
    · rw [decide_eq_true hv]
      simp only [Bool.not_true, Bool.false_eq_true, if_false, Bool.true_and]
      exact ih
    · rw [decide_eq_false hv]
      simp only [Bool.not_false, if_true, Sem.run_pure, Bool.false_and]
structure KeyTy (P : Program) (t : TypeId) (n : Nat) : Prop where
  chk : ∀ (em : Bool) (l : List Int) (w : World), l.length = n → (Instr.checkKey em 10000 t (ia l)).run P w = .ok () w
  eq : ∀ (l m : List Int) (w : World), l.length = n → m.length = n → (Op.equal t (ia l) (ia m)).run P w = .ok (decide (l = m)) w
  desc : ∃ u, P.underlying t = some u ∧ (∀ (l : List Int) (e : MapEntry) (es : List MapEntry), Instr.findNow u (ia l) (e :: es) 0 = none) ∧ ∀ (l : List Int) (w : World), (Instr.findKey t (ia l) []).run P w = .ok none w
theorem keyTy_struct {t : TypeId} {fs : Array Field} {k : Nat} (fq : List (Field × Nat)) (hu : P.underlying t = some (.struct fs)) (hp : P.stoodInHeld t = false) (hfs : fs.toList = fq.map Prod.fst) (hff : ∀ q ∈ fq, FF P q.1 q.2 ∧ q.1.offset + q.2 ≤ k)
    (hck : ∀ q ∈ fq, P.underlying q.1.type = some (.int .i64) ∨ ∃ el, P.underlying q.1.type = some (.array q.2 el) ∧ P.underlying el = some (.int .i64) ∧ ∀ w, (sizeOf el).run P w = .ok 1 w)
    (hcov : ∀ l m : List Int, l.length = k → m.length = k → (fq.all fun q => decide ((l.drop q.1.offset).take q.2 = (m.drop q.1.offset).take q.2)) = decide (l = m)) : KeyTy P t k := by
  refine ⟨fun em l w hl => ?_, fun l m w hl hm => ?_, ⟨_, hu, fun l e es => ?_, fun l w => ?_⟩⟩
  · have one : ∀ q ∈ fq, ∀ w, q.1.name ≠ "_" ∧ ∃ v, (part q.1.type (iv l).toArray q.1.offset).run P w = .ok v w ∧ (Instr.checkKey em 9999 q.1.type v).run P w = .ok () w := by
      intro q hq w
      obtain ⟨⟨hn, hf⟩, ho⟩ := hff q hq
      refine ⟨hn, ?_⟩
      rcases hf with ⟨hi, hk1⟩ | ⟨hf, ha, hs⟩
      · have e1 : (iv l).toArray[q.1.offset]? = some (.int .i64 (l.getD q.1.offset 0)) := by simp [show q.1.offset < l.length by omega]
        refine ⟨_, zCz hi e1, ?_⟩
        unfold Instr.checkKey
        simp [Sem.run_bind, run_underlying hi, Result.andThen]
      · refine ⟨_, zFr ha hs, ?_⟩
        rcases hck q hq with hi | ⟨el, h1, h2, h3⟩
        · exfalso
          unfold flatInts at hf
          rw [hi] at hf
          cases hf
        · exact zEe (dd := 9997) h1 (by simp; omega) h2 h3
    rw [show (10000 : Nat) = 9999 + 1 from rfl, Instr.checkKey]
    unfold ia
    simp only [Sem.run_bind, run_underlying hu, Result.andThen_ok]
    rw [← Array.forIn_toList, hfs]
    have : ∀ (q : List (Field × Nat)), (∀ x ∈ q, x ∈ fq) → ∀ w, (forIn (q.map Prod.fst) PUnit.unit fun f _ => (do
        if f.name ≠ "_" then Instr.checkKey em 9999 f.type (← part f.type (iv l).toArray f.offset)
        pure (ForInStep.yield PUnit.unit) : Sem (ForInStep PUnit)) : Sem PUnit).run P w = .ok PUnit.unit w := by
      intro q
      induction q with
      | nil => intro _ w; simp
      | cons x q ih =>
        intro hx w
        obtain ⟨hn, v, h1, h2⟩ := one x (hx x (.head _)) w
        simp only [List.map_cons, List.forIn_cons, Sem.run_bind, hn, ne_eq, not_false_eq_true, if_true, h1, h2, Result.andThen_ok, Sem.run_pure]
        exact ih (fun y hy => hx y (.tail _ hy)) w
    have h := this fq (fun _ h => h) w
    exact congrArg (fun r => Result.andThen r fun a w' => Sem.run P (pure ()) w') h
  · have hfo : P.fieldsOf t = fs := by simp [Program.fieldsOf, hu]
    show (Op.equalIn ((9997 + 2) + 1) t (.agg (iv l).toArray) (.agg (iv m).toArray)).run P w = _
    rw [run_equalIn_struct w (9997 + 2) t _ _ (by rw [hfo]; exact hu) hp, hfo, hfs, zHy 9997 l m fq (fun q hq => ⟨(hff q hq).1, by have := (hff q hq).2; omega, by have := (hff q hq).2; omega⟩), hcov l m hl hm]
  · simp [Instr.findNow, Instr.sameNow]
  · simp [Instr.findKey, Sem.run_bind, run_underlying hu, Result.andThen, Instr.findNow]
end
end Go.Rt
/- The walking engine, part 11: one number copied into a list at a place. No conditions. -/
namespace Go.Rt
open Go.RowKit
variable {r : Option Nat} {P : Program} {ops : Array Oper} {Q : Exit → Act → World → Prop} {rest : List Oper} {n : Nat} {ρ : Nat → Value} {ds : List Deferred} {ty : TypeId} {p : String} {e : Array Edge} {g : Option (Nat × Bool)} {w w0 : World} {L : List (Nat × Obj)}
theorem w_copy1 {d : Nat} {t el : TypeId} {i i2 : Nat} {x y : Operand} {b b2 j c c2 : Nat} {tb tb2 : TypeId} {l : List Int} {z : Int}
    (hw : Want ops (A n ρ ds) ⟨some d, .call ⟨.builtin .copy, #[x, y], #[t, t]⟩, ty, p, e, g⟩)
    (hU : P.underlying t = some (.slice el)) (hsz : ∀ w, (sizeOf el).run P w = .ok 1 w) (ho : okO n x = true) (ho1 : okO n y = true)
    (hx : ev ρ x = .slice (if c = j then some ⟨b, 0, none⟩ else (some (⟨b, 0, none⟩ : Addr)).map (·.add (j * 1))) (c - j) (c - j)) (hy : ev ρ y = .slice (some ⟨b2,0, none⟩) 1 c2)
    (hst : St w0 w L) (hi : L[i]? = some (b, blk tb (iv l))) (hi2 : L[i2]? = some (b2, blk tb2 [.int .i64 z])) (hj : j < c) (hc : l.length = c)
    (hk : ∀ w', St w0 w' (L.set i (b, blk tb (iv (l.set j z)))) → WL r P ops Q rest (A n (upd ρ d (.int .i64 1)) ds) w') :
    WL r P ops Q (⟨some d, .call ⟨.builtin .copy, #[x, y], #[t, t]⟩, ty, p, e, g⟩ :: rest) (A n ρ ds) w := by
  have hx2 : ev ρ x = .slice (some ⟨b, j, none⟩) (c - j) (c - j) := by
    rw [hx, if_neg (by omega)]
    by_cases h0 : j = 0
    · subst h0; rfl
    · simp [Addr.add, h0]
  have hm : Nat.min 1 (c - j) = 1 := Nat.min_eq_left (by omega)
  refine w_copy (xs := [.int .i64 z]) (vs := [.int .i64 z]) (k := 1) hw hU hsz ho ho1 hx2 hy hst hi (zBp (i := i2) (rows := [[.int .i64 z]]) hi2 (by simp) rfl) rfl hm.symm rfl (by simp [Value.oneCell']) (by simp; omega) (fun w' hst' => hk w' ?_)
  have : setMany (iv l) j [.int .i64 z] = iv (l.set j z) := by simp [setMany, iv, List.map_set]
  rwa [this] at hst'
theorem zGa {x y k : Nat} (h : x < k) : x >>> y < k := Nat.lt_of_le_of_lt (Nat.shiftRight_le _ _) h
end Go.Rt
/- The walking engine, part 12: ranges over functions that keep something of their own. No conditions. -/
namespace Go.Rt
open Go.RowKit
variable {r : Option Nat} {P : Program} {ops : Array Oper} {Q : Exit → Act → World → Prop} {rest : List Oper} {n : Nat} {ρ : Nat → Value} {ds : List Deferred} {w w0 : World} {L : List (Nat × Obj)}
def IterC (P : Program) (k : FuncId) (first captured : List Value) (xs : List Value) (w0 : World) (F : List (Nat × Obj)) (C : (Nat → List (Nat × Obj) → Prop) → (List (Nat × Obj) → Prop) → Prop) : Prop :=
  ∀ (J : Nat → List (Nat × Obj) → Prop) (Js : List (Nat × Obj) → Prop), C J Js → ∀ (yv : Value) (B X : List (Nat × Obj)) (w : World), (∃ f a b, yv = .func f a b) →
    (∀ i (hi : i < xs.length) B X w, J i B → St w0 w (X ++ (B ++ F)) → FCon P yv [xs[i]] w fun v w' => ∃ B', St w0 w' (X ++ (B' ++ F)) ∧ (v = .bool true ∧ J (i + 1) B' ∨ v = .bool false ∧ Js B')) →
    J 0 B → St w0 w (X ++ (B ++ F)) →
    Con P k (first ++ ([yv] ++ captured)) w fun _ w' => ∃ B', St w0 w' (X ++ (B' ++ F)) ∧ (J xs.length B' ∨ Js B')
def ClsM (K : List (Nat × Obj) → Prop) (J : Nat → List (Nat × Obj) → Prop) (Js : List (Nat × Obj) → Prop) : Prop :=
  ∃ (J0 : Nat → List (Nat × Obj) → Prop) (Js0 : List (Nat × Obj) → Prop), (∀ i Bx, J i Bx ↔ ∃ B M, Bx = B ++ M ∧ K M ∧ J0 i B) ∧ ∀ Bx, Js Bx ↔ ∃ B M, Bx = B ++ M ∧ K M ∧ Js0 B
theorem zG0 {K : List (Nat × Obj) → Prop} {J : Nat → List (Nat × Obj) → Prop} {Js : Code → List (Nat × Obj) → Prop} (J0 : Nat → List (Nat × Obj) → Prop) (Js0 : Code → List (Nat × Obj) → Prop) (h1 : ∀ i Bx, J i Bx ↔ ∃ B M, Bx = B ++ M ∧ K M ∧ J0 i B) (h2 : ∀ c Bx, Js c Bx ↔ ∃ B M, Bx = B ++ M ∧ K M ∧ Js0 c B) (a b : Nat × Obj) (cc : Code → Nat × Obj) :
    ClsM K (fun i Bx => ∃ B, Bx = a :: b :: B ∧ J i B) (fun Bx => ∃ B c, Bx = cc c :: b :: B ∧ Js c B) := by
  refine ⟨fun i B => ∃ B0, B = a :: b :: B0 ∧ J0 i B0, fun B => ∃ B0 c, B = cc c :: b :: B0 ∧ Js0 c B0, fun i Bx => ⟨?_, ?_⟩, fun Bx => ⟨?_, ?_⟩⟩
  · rintro ⟨B, rfl, hJ⟩
    obtain ⟨B0, M, rfl, hK, h⟩ := (h1 i B).1 hJ
    exact ⟨a :: b :: B0, M, rfl, hK, B0, rfl, h⟩
  · rintro ⟨B, M, rfl, hK, B0, rfl, h⟩
    exact ⟨B0 ++ M, rfl, (h1 i _).2 ⟨B0, M, rfl, hK, h⟩⟩
  · rintro ⟨B, c, rfl, hJ⟩
    obtain ⟨B0, M, rfl, hK, h⟩ := (h2 c B).1 hJ
    exact ⟨cc c :: b :: B0, M, rfl, hK, B0, c, rfl, h⟩
  · rintro ⟨B, M, rfl, hK, B0, c, rfl, h⟩
    exact ⟨B0 ++ M, c, rfl, (h2 c _).2 ⟨B0, M, rfl, hK, h⟩⟩
theorem st_in {P X B R : List (Nat × Obj)} (h : St w0 w (P ++ (X ++ (B ++ R)))) : St w0 w ((P ++ (X ++ B)) ++ R) := by simpa only [List.append_assoc] using h
theorem st_out {P X B R : List (Nat × Obj)} (h : St w0 w ((P ++ (X ++ B)) ++ R)) : St w0 w (P ++ (X ++ (B ++ R))) := by simpa only [List.append_assoc] using h
theorem zJa {C : (Nat → List (Nat × Obj) → Prop) → (List (Nat × Obj) → Prop) → Prop} {g : Operand} {pt : Nat} {assign body : Code} {k : FuncId} {first captured : Array Value} {xs : List Value} {F : List (Nat × Obj)} (B : List (Nat × Obj)) (J : Nat → List (Nat × Obj) → Prop) (Js : Code → List (Nat × Obj) → Prop)
    (hog : okO n g = true) (hg : ev ρ g = .func (.func k) first captured) (hpt : Nat.blt pt n = true) (hC : CF P k) (hit : IterC P k first.toList captured.toList xs w0 F C) (hcls : ∀ (a b : Nat × Obj) (cc : Code → Nat × Obj), C (fun i Bx => ∃ B, Bx = a :: b :: B ∧ J i B) (fun Bx => ∃ B c, Bx = cc c :: b :: B ∧ Js c B)) (hst : St w0 w L) (hperm : L.Perm (B ++ F)) (h0 : J 0 B)
    (round : ∀ l i (hi : i < xs.length) B X X' w, J i B → St w0 w (B ++ (X ++ F)) → ∀ K : Act → World → Prop,
      (∀ a w Y, St w0 w (Y ++ (X ++ F)) → (∀ w', St w0 w' (Y ++ (X' ++ F)) → WC (some l) P body (Rd w0 J Js i (X' ++ F)) a w') → K a w) →
      WC (some l) P assign (Exit.then K fun _ _ _ => False) (A n (upd ρ pt xs[i]) []) w)
    (hend : ∀ bd B w, J xs.length B → St w0 w ((bd, .deferred (some [])) :: (B ++ F)) → Q .normal (A n ρ (mk bd :: ds)) w)
    (hjump : ∀ bd c B w, Js c B → St w0 w ((bd, .deferred (some [])) :: (B ++ F)) → WC none P c Q (A n ρ (mk bd :: ds)) w) :
    WC none P (.rangeFunc g #[pt] assign body) Q (A n ρ ds) w := by
  refine wpIn_rangeFunc (F := FW none) fun fn _ => ?_
  have henter := run_enterLoop_outer (P := P) (w := w) fn (A n ρ ds).tmps #[pt] assign body
  let bd := w.heap.size
  let l := w.heap.size + 1
  let rc (s : LoopState) (pend : Option Code) : Obj := .loop { state := s, pending := pend, fn := fn, tmps := fa n ρ, params := #[pt], assign := assign, body := body, defers := bd }
  let w1 : World := (w.alloc (.deferred (some []))).alloc (rc .ready none)
  have hst1 : St w0 w1 ((l, rc .ready none) :: (bd, .deferred (some [])) :: L) := by
    have h1 := (hst.alloc (.deferred (some []))).alloc (rc .ready none)
    rw [World.size_alloc] at h1
    exact h1
  refine ⟨l, [mk bd], w1, { target := .fn (.func k) captured, args := first ++ #[.func (.yield l) #[] #[]] }, w1, k, first ++ #[.func (.yield l) #[] #[]] ++ captured, w1, henter, ?_, fun _ _ => trivial, ?_, fun h => (by simp at h), ?_⟩
  · have e1 : (#[Operand.const (Value.func (Fn.yield l) #[] #[])].map (A n ρ ds).eval) = #[Value.func (Fn.yield l) #[] #[]] := by simp [Act.eval]
    simp only [resolve, rangeCall, zBz hog, hg, Deferred.ofValue, e1]
    rfl
  · exact hC (first ++ #[Value.func (Fn.yield l) #[] #[]] ++ captured) w1
  · have hperm1 : ((l, rc .ready none) :: (bd, .deferred (some [])) :: L).Perm ([] ++ (((l, rc .ready none) :: (bd, .deferred (some [])) :: B) ++ F)) := (List.Perm.cons _ (List.Perm.cons _ hperm))
    have hI := hit (fun i Bx => ∃ B, Bx = (l, rc .ready none) :: (bd, .deferred (some [])) :: B ∧ J i B) (fun Bx => ∃ B c, Bx = (l, rc .done (some c)) :: (bd, .deferred (some [])) :: B ∧ Js c B) (hcls (l, rc .ready none) (bd, .deferred (some [])) (fun c => (l, rc .done (some c)))) (.func (.yield l) #[] #[])
      ((l, rc .ready none) :: (bd, .deferred (some [])) :: B) [] w1 ⟨_, _,_, rfl⟩ ?_ ⟨B, rfl, h0⟩ (hst1.perm hperm1)
    · have hargs : (first ++ #[Value.func (Fn.yield l) #[] #[]] ++ captured) = (first.toList ++ ([Value.func (Fn.yield l) #[] #[]] ++ captured.toList)).toArray := by
        apply Array.ext'; simp
      rw [hargs]
      refine CallsIn.mono hI ?_
      rintro e w' ⟨v, rfl, B', hst', hB⟩
      rcases hB with ⟨B, rfl, hB⟩ | ⟨B, c, rfl, hB⟩
      · have hg' := hst'.get (i := 0) rfl
        refine ⟨none, _, run_endLoop hg' (by simp), ?_⟩
        exact hend bd B _ hB (hst'.putObj (i := 0) rfl _).tail
      · have hg' := hst'.get (i := 0) rfl
        refine ⟨some c, _, run_endLoop hg' (by simp), ?_⟩
        exact hjump bd c B _ hB (hst'.putObj (i := 0) rfl _).tail
    · rintro i hi Bx X w2 ⟨B, rfl, hB⟩ hst2
      have hp : (X ++ (((l, rc .ready none) :: (bd, .deferred (some [])) :: B) ++ F)).Perm ((l, rc .ready none) :: (bd, .deferred (some [])) :: (X ++ (B ++ F))) := zAq X [(l, rc .ready none), (bd, .deferred (some []))] (B ++ F)
      have hst3 := hst2.perm hp
      have hg' := hst3.get (i := 0) rfl
      refine .inr ⟨l, fn, fa n (upd ρ pt xs[i]), assign, body, rfl, ?_, ?_⟩
      · rw [run_yield hg' rfl]
        simp [rc, fa_put]
      · refine roundIn_of_wpIn (F := FW none) trivial ?_
        have hp2 : ((l, rc .ready none) :: (bd, .deferred (some [])) :: (X ++ (B ++ F))).Perm (B ++ (((l, rc .ready none) :: (bd, .deferred (some [])) :: X) ++ F)) :=
          zAq ((l, rc .ready none) :: (bd, .deferred (some [])) :: X) B F
        refine round l i hi B ((l, rc .ready none) :: (bd, .deferred (some [])) :: X) ((l, rc .busy none) :: (bd, .deferred (some [])) :: X) w2 hB (hst3.perm hp2) _ ?_
        intro a w3 Y hst4 hbody
        have hp3 : (Y ++ (((l, rc .ready none) :: (bd, .deferred (some [])) :: X) ++ F)).Perm ((l, rc .ready none) :: (Y ++ (((bd, .deferred (some [])) :: X) ++ F))) := zAq Y [(l, rc .ready none)] _
        have hst5 := hst4.perm hp3
        have hg5 := hst5.get (i := 0) rfl
        refine ⟨_, run_beginRound hg5 rfl, ?_⟩
        have hst6 := hst5.putObj (i := 0) rfl (rc .busy none)
        have hp4 : ((l, rc .busy none) :: (Y ++ (((bd, .deferred (some [])) :: X) ++ F))).Perm (Y ++ (((l, rc .busy none) :: (bd, .deferred (some [])) :: X) ++ F)) := (zAq Y [(l, rc .busy none)] _).symm
        refine w_mono (hbody _ (hst6.perm hp4)) ?_
        have back : ∀ (B' : List (Nat × Obj)) (w : World) (s : LoopState) (pend : Option Code), St w0 w (B' ++ (((l, rc .busy none) :: (bd, .deferred (some [])) :: X) ++ F)) → w.heap[l]? = some (rc .busy none) ∧
            St w0 (w.putObj l (rc s pend)) (X ++ (((l, rc s pend) :: (bd, .deferred (some [])) :: B') ++ F)) := by
          intro B' w s pend h
          have h1 := h.perm (zAq B' [(l, rc .busy none)] (((bd, .deferred (some [])) :: X) ++ F))
          refine ⟨h1.get (i := 0) rfl, ?_⟩
          have h2 := h1.putObj (i := 0) rfl (rc s pend)
          refine h2.perm ?_
          show ((l, rc s pend) :: (B' ++ (((bd, .deferred (some [])) :: X) ++ F))).Perm _
          refine (List.Perm.cons _ (zAq B' [(bd, .deferred (some []))] (X ++ F))).trans ?_
          refine (List.Perm.cons _ (List.Perm.cons _ (zAq B' X F))).trans ?_
          exact (zAq X [(l, rc s pend), (bd, .deferred (some []))] (B' ++ F)).symm
        intro e a' w' hq
        cases e with
        | normal =>
          obtain ⟨B', hs, hJ⟩ := hq
          obtain ⟨hb1, hb2⟩ := back B' w' .ready none hs
          exact ⟨_, _, run_endRound none hb1, _, rfl, _, hb2, .inl ⟨rfl, B', rfl, hJ⟩⟩
        | ret =>
          obtain ⟨B', hs, hJ⟩ := hq
          obtain ⟨hb1, hb2⟩ := back B' w' .done (some .ret) hs
          exact ⟨_, _, run_endRound (some .ret) hb1, _, rfl, _, hb2, .inr ⟨rfl, B', _, rfl, hJ⟩⟩
        | exit id =>
          obtain ⟨B', hs, hJ⟩ := hq
          obtain ⟨hb1, hb2⟩ := back B' w' .done (some (.exit id)) hs
          exact ⟨_, _, run_endRound (some (.exit id)) hb1, _, rfl, _, hb2, .inr ⟨rfl, B', _, rfl, hJ⟩⟩
        | goto t => exact hq.elim
        | panic c => exact hq.elim
        | outgrown => exact hq.elim

end Go.Rt
/- The walking engine, part 13: whole quotients. Plain theorems over the kit's fenced calculus. No conditions. -/
namespace Go.Rt
variable {r : Option Nat} {P : Program} {ops : Array Oper} {Q : Exit → Act → World → Prop} {rest : List Oper} {n : Nat} {ρ : Nat → Value} {ds : List Deferred} {w w0 : World} {d : Option Nat} {ty : TypeId} {p : String} {e : Array Edge} {g : Option (Nat × Bool)} {L : List (Nat × Obj)}
end Go.Rt
/- The walking engine, part 14: lookups that ask for the value alone. No conditions. -/
namespace Go.Rt
open Go.RowKit
variable {r : Option Nat} {P : Program} {ops : Array Oper} {Q : Exit → Act → World → Prop} {rest : List Oper} {n : Nat} {ρ : Nat → Value} {ds : List Deferred} {d : Option Nat} {ty : TypeId} {p : String} {e : Array Edge} {g : Option (Nat × Bool)} {w w0 : World} {L : List (Nat × Obj)}
end Go.Rt
/- The walking engine, part 15: loops that hold ranges over functions: the marks pile up. No conditions. -/
namespace Go.Rt
open Go.RowKit
variable {r : Option Nat} {P : Program} {ops : Array Oper} {Q : Exit → Act → World → Prop} {rest : List Oper} {n : Nat} {ρ : Nat → Value} {ds : List Deferred} {w w0 : World} {L : List (Nat × Obj)}
def mks (bs : List Nat) : List Deferred := bs.map mk
def dfs (bs : List Nat) : List (Nat × Obj) := bs.map fun b => (b, .deferred (some []))
def NxD (n : Nat) (D S : List Nat) (ρ : Nat → Value) (I : Nat → List Value → List Nat → World → Prop) (k : Nat) (a : Act) (w : World) : Prop :=
  ∃ ρ' k' bs', a = A n ρ' (mks bs') ∧ Agree D ρ ρ' ∧ k' < k ∧ I k' (S.map ρ') bs' w
theorem NxD.intro {D S : List Nat} {I : Nat → List Value → List Nat → World → Prop} {k : Nat} {ρ' : Nat → Value} (bs' : List Nat) (k' : Nat) (hk : k' < k) (ha : Agree D ρ ρ') (hI : I k' (S.map ρ') bs' w) : NxD n D S ρ I k (A n ρ' (mks bs')) w :=
  ⟨ρ', k', bs', rfl, ha, hk, hI⟩
end Go.Rt
