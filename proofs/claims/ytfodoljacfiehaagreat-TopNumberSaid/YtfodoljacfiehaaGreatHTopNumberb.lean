/- Own texts of this claim, joined. No conditions. -/
import Derived.Test.YtfodoljacfiehaaGreatRows
import Derived.Laws.Bits64b
import Derived.Test.YtfodoljacfiehaaGreatHTopNumbera
set_option linter.unusedVariables false
set_option linter.unusedSimpArgs false
set_option maxRecDepth 20000
namespace Go.Proofs
open Go.Proofs.Tryz
open Go.Rt
attribute [local irreducible] WL WC Con Yd At Ats Sl Agree DW

theorem zB7 : Tryz.prog.follows .mixedOrders = true := by kernel_rfl
theorem c17 {w0 w : World} {F : List (Nat × Obj)} (n lo hi : Int) (hs : St w0 w F) : Con Tryz.prog 17 [.int .i64 n, .int .i64 lo, .int .i64 hi] w fun v w' => v = .bool (decide (lo ≤ n ∧ n ≤ hi)) ∧ St w0 w' F := by
  refine zAo (n := 15) func17 rfl rfl (zNl rfl) ?_
  refine zAf (fun K2 g4 => (zAa (zA9 rfl rfl (zAe (zAb (g4 _ _ (zAf (fun K4 g3 => (zAa (zA2 rfl rfl (zA2 rfl rfl (w_p (zHv rfl rfl rfl rfl) rfl ?_))))))))))))
  refine w_p (zAn rfl rfl) rfl (zBk (fun h5 => ?_) (fun h5 => ?_))
  ·
   try simp only [zS] at h5
   refine w_y rfl rfl rfl (zAu rfl rfl) rfl ?_
   refine w_y rfl rfl rfl (zAu rfl rfl) rfl ?_
   refine w_y rfl rfl rfl (y_leq rfl rfl rfl rfl) rfl ?_
   refine w_p (zAt (v := .bool _) rfl rfl rfl rfl) rfl (w_p (zAl rfl rfl) rfl (zAe (zAb (g3 _ _ (zA0 (zA1 (l := [.tmp 6]) (vs := [_]) rfl ⟨⟨rfl, (rfl : _ = Value.bool _)⟩, trivial⟩ ?_))))))
   exact ⟨congrArg Value.bool (by rw [Bool.eq_iff_iff]; simp [*] <;> omega), hs⟩
  try simp only [zS] at h5
  refine zAg rfl rfl rfl ?_
  refine zAg rfl rfl rfl ?_
  refine zAg rfl rfl rfl ?_
  refine w_p (zBb (v := _) rfl rfl rfl rfl) rfl (w_p (zAl rfl rfl) rfl (zAe (zAb (g3 _ _ (zA0 (zA1 (l := [.tmp 6]) (vs := [_]) rfl ⟨⟨rfl, (rfl : _ = Value.bool _)⟩, trivial⟩ ?_))))))
  exact ⟨congrArg Value.bool (by rw [Bool.eq_iff_iff]; simp [*] <;> omega), hs⟩

theorem c18 {w0 w : World} {F : List (Nat × Obj)} (a b lo hi : Int) (hs : St w0 w F) : Con Tryz.prog 18 [.agg #[.int .i64 a, .int .i64 b], .int .i64 lo, .int .i64 hi] w fun v w' => v = .int .i64 (ends a b lo hi) ∧ St w0 w' F := by
  refine zAo (n := 26) func18 rfl rfl (zNl rfl) ?_
  refine zAf (fun K2 ga => (zAa (zCd (v := .agg #[.int _ _, .int _ _]) (cs := [_,_]) zAc rfl rfl rfl hs (fun b3 w4 g8 => ?_))))
  refine zA9 rfl rfl (zAe (zAb (ga _ _ (zAf (fun K7 gb => (zAf (fun K9 g9 => (zAa (w_p (zAd (o := 0) (i := 0) underlying28 rfl sizeOf3 rfl rfl rfl) rfl ?_)))))))))
  refine w_p (zAi isAgg3 g8 rfl rfl (aow 0 [_])) rfl (zA2 rfl rfl (zA2 rfl rfl ?_))
  refine zCi zAc call17 rfl rfl rfl rfl (c17 _ _ _ g8) (fun gi g4 => ?_)
  refine w_p (zC0 rfl rfl) rfl (w_p (zAn rfl rfl) rfl (zBk (fun g5 => ?_) (fun g5 => ?_)))
  ·
   try simp only [zS] at g5
   refine zAg rfl rfl rfl ?_
   refine zAg rfl rfl rfl ?_
   refine zAg rfl rfl rfl ?_
   refine zAg rfl rfl rfl ?_
   refine zAg rfl rfl rfl ?_
   refine zAg rfl rfl rfl ?_
   refine w_p (zAt (v := _) rfl rfl rfl rfl) rfl (zAe (zAb (g9 _ _ (zBz rfl rfl ?_))))
   refine zAf (fun gj gc => (zAa (zA9 rfl rfl (zAe (zAb (gc _ _ (zA0 (zAh (zA1 (l := [.tmp 6]) (vs := [_]) rfl ⟨⟨rfl, (rfl : _ = Value.int _ _)⟩, trivial⟩ ?_)))))))))
   exact ⟨congrArg (Value.int .i64) (by simp only [ends, out, Bool.or_eq_true, decide_eq_true_eq]; (repeat' split) <;> omega), g4.tail⟩
  try simp only [zS] at g5
  refine w_y rfl rfl rfl (zAd (o := 1) (i := 1) underlying28 rfl sizeOf3 rfl rfl rfl) rfl ?_
  refine w_y rfl rfl rfl (zAi isAgg3 g4 rfl rfl (aow 0 [_])) rfl ?_
  refine w_y rfl rfl rfl (zAu rfl rfl) rfl ?_
  refine w_y rfl rfl rfl (zAu rfl rfl) rfl ?_
  refine zA4 (zAm rfl rfl rfl) call17 rfl rfl rfl rfl (c17 _ _ _ g4) ?_
  rintro _ gk ⟨rfl, g3⟩
  refine w_y rfl rfl rfl (zC0 rfl rfl) rfl ?_
  refine w_p (zBb (v := .bool _) rfl rfl rfl rfl) rfl (zAe (zAb (g9 _ _ (zAv rfl rfl (fun g6 => ?_) (fun g6 => ?_)))))
  ·
   try simp only [zS] at g6
   refine zAf (fun gm gd => (zAa (zA9 rfl rfl (zAe (zAb (gd _ _ (zA0 (zAh (zA1 (l := [.tmp 6]) (vs := [_]) rfl ⟨⟨rfl, (rfl : _ = Value.int _ _)⟩, trivial⟩ ?_)))))))))
   exact ⟨congrArg (Value.int .i64) (by simp only [ends, out, Bool.or_eq_true, decide_eq_true_eq]; (repeat' split) <;> omega), g3.tail⟩
  try simp only [zS] at g6
  refine zAr (zAb (gb _ _ (zAf (fun gn ge => (zAf (fun gq gf => (zAa (w_p (zAd (o := 1) (i := 1) underlying28 rfl sizeOf3 rfl rfl rfl) rfl (w_p (zAi isAgg3 g3 rfl rfl (aow 0 [_])) rfl ?_)))))))))
  refine w_p (zAd (o := 0) (i := 0) underlying28 rfl sizeOf3 rfl rfl rfl) rfl (w_p (zAi isAgg3 g3 rfl rfl (aow 0 [_])) rfl (w_p (zCb rfl rfl rfl rfl) rfl (zAe ?_)))
  refine zAb (gf _ _ (zAv rfl rfl (fun g7 => ?_) (fun g7 => ?_)))
  ·
   try simp only [zS] at g7
   refine zAf (fun gr gg => (zAa (zA9 rfl rfl (zAe (zAb (gg _ _ (zA0 (zAh (zA1 (l := [.tmp 6]) (vs := [_]) rfl ⟨⟨rfl, (rfl : _ = Value.int _ _)⟩, trivial⟩ ?_)))))))))
   exact ⟨congrArg (Value.int .i64) (by simp only [ends, out, Bool.or_eq_true, decide_eq_true_eq]; (repeat' split) <;> omega), g3.tail⟩
  try simp only [zS] at g7
  refine zAr (zAb (ge _ _ (zAf (fun gt gh => (zAa (zA9 rfl rfl (zAe (zAb (gh _ _ (zA0 (zA1 (l := [.tmp 6]) (vs := [_]) rfl ⟨⟨rfl, (rfl : _ = Value.int _ _)⟩, trivial⟩ ?_)))))))))))
  exact ⟨congrArg (Value.int .i64) (by simp only [ends, out, Bool.or_eq_true, decide_eq_true_eq]; (repeat' split) <;> omega), g3.tail⟩

theorem less_at (a b : List Int) (i : Nat) (h : a.take i = b.take i) (ha : i ≤ a.length) (hb : i ≤ b.length) : less a b = less (a.drop i) (b.drop i) := by
  induction i generalizing a b with
  | zero => rfl
  | succ i ih =>
    cases a with
    | nil => simp at ha
    | cons x a =>
      cases b with
      | nil => simp at hb
      | cons y b =>
        simp only [List.take_succ_cons, List.cons.injEq] at h
        obtain ⟨rfl, h⟩ := h
        simp only [less, if_true, List.drop_succ_cons]
        exact ih a b h (by simpa using ha) (by simpa using hb)
theorem zFh {a b : List Int} {i : Nat} (h : a.take i = b.take i) (ha : i < a.length) (hb : i < b.length) (e : a[i] = b[i]) : a.take (i + 1) = b.take (i + 1) := by
  rw [List.take_succ_eq_append_getElem ha, List.take_succ_eq_append_getElem hb, h, e]
theorem zC7 {a b : List Int} {i : Nat} (h : a.take i = b.take i) (ha : i ≤ a.length) (hb : i = b.length) : less a b = false := by
  rw [less_at a b i h ha (by omega), hb, List.drop_length]
  cases a.drop b.length <;> rfl
theorem zCn {a b : List Int} {i : Nat} (h : a.take i = b.take i) (ha : i = a.length) (hb : i < b.length) : less a b = true := by
  rw [less_at a b i h (by omega) (by omega), ha, List.drop_length]
  have : b.drop a.length = b[a.length] :: b.drop (a.length + 1) := List.drop_eq_getElem_cons (by omega)
  rw [this]; rfl
theorem zDn {a b : List Int} {i : Nat} (h : a.take i = b.take i) (ha : i < a.length) (hb : i < b.length) (hne : a[i] ≠ b[i]) : less a b = decide (a[i] < b[i]) := by
  rw [less_at a b i h (by omega) (by omega), List.drop_eq_getElem_cons ha, List.drop_eq_getElem_cons hb]
  simp only [less]
  rw [if_neg hne]
theorem zCy {w0 : World} {F : List (Nat × Obj)} {a : Option Addr} {l : List Int} {i : Nat} (h : Sl w0 F a 1 (l.map fun x => [Value.int .i64 x])) (hi : i < l.length) :
    ∃ b off, a = some ⟨b, off, none⟩ ∧ Ats w0 F b (off + i * 1) [.int .i64 l[i]] := by
  obtain ⟨b, off, ha, _, hat⟩ := h.at (i := i) (row := [.int .i64 l[i]]) (by simp [hi])
  exact ⟨b, off, ha, hat⟩
theorem c66 {w0 w : World} {F : List (Nat × Obj)} (aa ab : Option Addr) (a b : List Int) (ca cb : Nat) (hla : a.length ≤ 9223372036854775807) (ha : Sl w0 F aa 1 (a.map fun x => [Value.int .i64 x])) (hb : Sl w0 F ab 1 (b.map fun x => [Value.int .i64 x])) (hs : St w0 w F) :
  Con Tryz.prog 66 [.slice aa a.length ca, .slice ab b.length cb] w fun v w' => v = .bool (less a b) ∧ St w0 w' F := by
  refine zAo (n := 48) func66 rfl rfl (zNl rfl) ?_
  refine zAf (fun K2 gm => (zAa (zA9 rfl rfl (zAe (zAb (gm _ _ (zAf (fun K4 gn => (zAa (zA9 rfl rfl (zAe (zAb (gn _ _ (zAf (fun K6 g7 => (zAw ?_))))))))))))))))
  refine zB2 [5,6,7,8,9,10,11,12,13,14,15,16,17,18,19,20,21,22,23,24,25,26,27,28] [5] (fun k vs w => ∃ i : Nat, vs = [.int .i64 i] ∧ i ≤ a.length ∧ i ≤ b.length ∧ k = a.length - i ∧ a.take i = b.take i ∧ St w0 w F) (a.length) ?_ ?_
  ·
   exact ⟨0, rfl, by omega, by omega, by omega, rfl, hs⟩
  intro k vs μ w9 hI K8 gq
  obtain ⟨i, rfl, hia, hib, rfl, hpre, hs⟩ := hI
  refine zAf (fun gD gr => (zAf (fun gE g8 => (zCc [] [(0,0),(1,0),(2,0),(3,0),(4,0),(5,0),(6,0),(7,0),(8,0),(9,0),(10,0),(11,0),(12,0),(13,0),(14,1),(15,0),(16,0),(17,0),(18,1),(19,0),(20,0)] zB7 (by kernel_rfl) hs (fun gF g3 => ?_)))))
  refine d_w rfl (fun _ => zAu rfl rfl) rfl (d_w rfl (fun _ => zAx rfl rfl) rfl (d_w rfl (fun _ => zBd underlying30 rfl rfl) rfl (d_w rfl (fun _ => zCb rfl rfl rfl rfl) rfl (d_w rfl (fun _ => zAn rfl rfl) rfl ?_))))
  refine zEk (fun g9 => ?_) (fun g9 => ?_)
  ·
   try simp only [zS] at g9
   refine zCf rfl (zAm rfl rfl rfl) rfl (fun _ => (zAu rfl rfl)) ?_
   refine zCf rfl (zAm rfl rfl rfl) rfl (fun _ => (zAx rfl rfl)) ?_
   refine zCf rfl (zAm rfl rfl rfl) rfl (fun _ => (zBd underlying30 rfl rfl)) ?_
   refine zCf rfl (zAm rfl rfl rfl) rfl (fun _ => (zCb rfl rfl rfl rfl)) ?_
   refine d_w rfl (fun _ => zAt (v := .bool _) rfl rfl rfl rfl) rfl (d_w rfl (fun _ => zAn rfl rfl) rfl ?_)
   refine zEk (fun ga => ?_) (fun ga => ?_)
   ·
    try simp only [zS] at ga
    refine zCf rfl (zAm rfl rfl rfl) rfl (fun _ => (zAx rfl rfl)) ?_
    refine zCf rfl (zAm rfl rfl rfl) rfl (fun _ => (zAu rfl rfl)) ?_
    have hia2 : i < a.length := by omega
    have hib2 : i < b.length := by omega
    obtain ⟨ba, oa, rfl, hxa⟩ := zCy ha hia2
    obtain ⟨bb, ob, rfl, hxb⟩ := zCy hb hib2
    refine zCf rfl (zAm rfl rfl rfl) rfl (fun _ => (zA7 underlying30 sizeOf3 rfl rfl rfl rfl (i := _) rfl (by omega))) ?_
    refine zA3 rfl (zAm rfl rfl rfl) rfl g3 (fun _ hq => (zAi isAgg3 hq rfl rfl hxa)) ?_
    refine zCf rfl (zAm rfl rfl rfl) rfl (fun _ => (zAx rfl rfl)) ?_
    refine zCf rfl (zAm rfl rfl rfl) rfl (fun _ => (zAu rfl rfl)) ?_
    refine zCf rfl (zAm rfl rfl rfl) rfl (fun _ => (zA7 underlying30 sizeOf3 rfl rfl rfl rfl (i := _) rfl (by omega))) ?_
    refine zA3 rfl (zAm rfl rfl rfl) rfl g3 (fun _ hq => (zAi isAgg3 hq rfl rfl hxb)) ?_
    refine zCf rfl (zAm rfl rfl rfl) rfl (fun _ => (zCk rfl rfl rfl rfl)) ?_
    refine d_w rfl (fun _ => zAt (v := .bool _) rfl rfl rfl rfl) rfl ?_
    refine zB5 ?_
    refine zAb (g8 _ _ (zAv rfl rfl (fun gb => ?_) (fun gb => ?_)))
    ·
     try simp only [zS] at gb
     refine zAr (zAb (gr _ _ (zAw ?_)))
     refine zAa (zA2 rfl rfl (w_p (zBe rfl rfl rfl rfl (by omega) (by omega)) rfl (zBg rfl rfl (zAe (zAk (zAb (gq _ _ (nxI (a.length - (i + 1)) (by omega) ?_))))))))
     exact ⟨i + 1, rfl, by omega, by omega, rfl, zFh hpre (by omega) (by omega) (by assumption), g3⟩
    try simp only [zS] at gb
    refine zBr (zAj (zAj (zAy (zAb (g7 _ _ (zAf (fun gG gt => (zAf (fun gH gu => (zAa (zA2 rfl rfl (w_p (zAx rfl rfl) rfl ?_))))))))))))
    refine w_p (zBd underlying30 rfl rfl) rfl (w_p (zCk rfl rfl rfl rfl) rfl (zAe (zAb (gu _ _ (zAv rfl rfl (fun gc => ?_) (fun gc => ?_))))))
    ·
     try simp only [zS] at gc
     refine zAf (fun gI gw => (zAa (zA9 rfl rfl (zAe (zAb (gw _ _ (zA0 (zAh (zA1 (l := [.tmp 4]) (vs := [_]) rfl ⟨⟨rfl, (rfl : _ = Value.bool _)⟩, trivial⟩ ?_)))))))))
     exact ⟨(by first | (rw [zC7 hpre hia (by omega)]; rfl) | (rw [zCn hpre (by omega) (by omega)]; rfl) | (rw [zDn hpre (by omega) (by omega) (by first | assumption | omega)]; rfl)), g3⟩
    try simp only [zS] at gc
    refine zAr (zAb (gt _ _ (zAf (fun gJ gi => (zCc [] [(0,0),(1,0),(2,0),(3,0),(4,0),(5,0),(6,0),(7,0),(8,1),(9,0),(10,0),(11,0),(12,1),(13,0),(14,0),(15,0)] zB7 (by kernel_rfl) g3 (fun gK g4 => ?_))))))
    refine d_w rfl (fun _ => zAu rfl rfl) rfl (d_w rfl (fun _ => zAx rfl rfl) rfl (d_w rfl (fun _ => zBd underlying30 rfl rfl) rfl (d_w rfl (fun _ => zCk rfl rfl rfl rfl) rfl (d_w rfl (fun _ => zAn rfl rfl) rfl ?_))))
    refine zEk (fun gd => ?_) (fun gd => ?_)
    ·
     try simp only [zS] at gd
     refine zCe rfl rfl rfl rfl ?_
     refine zCe rfl rfl rfl rfl ?_
     refine zCe rfl rfl rfl rfl ?_
     refine zD1 rfl rfl rfl rfl g4 ?_
     refine zCe rfl rfl rfl rfl ?_
     refine zCe rfl rfl rfl rfl ?_
     refine zCe rfl rfl rfl rfl ?_
     refine zD1 rfl rfl rfl rfl g4 ?_
     refine zCe rfl rfl rfl rfl ?_
     refine d_w rfl (fun _ => zAt (v := _) rfl rfl rfl rfl) rfl (d_w rfl (fun _ => zAl rfl rfl) rfl ?_)
     refine zB5 ?_
     refine zAb (gi _ _ (zA0 (zA1 (l := [.tmp 4]) (vs := [_]) rfl ⟨⟨rfl, (rfl : _ = Value.bool _)⟩, trivial⟩ ?_)))
     exact ⟨(by first | (rw [zC7 hpre hia (by omega)]; rfl) | (rw [zCn hpre (by omega) (by omega)]; rfl) | (rw [zDn hpre (by omega) (by omega) (by first | assumption | omega)]; rfl)), g4⟩
    try simp only [zS] at gd
    refine zCf rfl (zAm rfl rfl rfl) rfl (fun _ => (zAx rfl rfl)) ?_
    refine zCf rfl (zAm rfl rfl rfl) rfl (fun _ => (zAu rfl rfl)) ?_
    refine zCf rfl (zAm rfl rfl rfl) rfl (fun _ => (zA7 underlying30 sizeOf3 rfl rfl rfl rfl (i := _) rfl (by omega))) ?_
    refine zA3 rfl (zAm rfl rfl rfl) rfl g4 (fun _ hq => (zAi isAgg3 hq rfl rfl hxa)) ?_
    refine zCf rfl (zAm rfl rfl rfl) rfl (fun _ => (zAx rfl rfl)) ?_
    refine zCf rfl (zAm rfl rfl rfl) rfl (fun _ => (zAu rfl rfl)) ?_
    refine zCf rfl (zAm rfl rfl rfl) rfl (fun _ => (zA7 underlying30 sizeOf3 rfl rfl rfl rfl (i := _) rfl (by omega))) ?_
    refine zA3 rfl (zAm rfl rfl rfl) rfl g4 (fun _ hq => (zAi isAgg3 hq rfl rfl hxb)) ?_
    refine zCf rfl (zAm rfl rfl rfl) rfl (fun _ => (zCb rfl rfl rfl rfl)) ?_
    refine d_w rfl (fun _ => zBb (v := .bool _) rfl rfl rfl rfl) rfl (d_w rfl (fun _ => zAl rfl rfl) rfl ?_)
    refine zB5 ?_
    refine zAb (gi _ _ (zA0 (zA1 (l := [.tmp 4]) (vs := [_]) rfl ⟨⟨rfl, (rfl : _ = Value.bool _)⟩, trivial⟩ ?_)))
    exact ⟨(by first | (rw [zC7 hpre hia (by omega)]; rfl) | (rw [zCn hpre (by omega) (by omega)]; rfl) | (rw [zDn hpre (by omega) (by omega) (by first | assumption | omega)]; rfl)), g4⟩
   try simp only [zS] at ga
   refine zCe rfl rfl rfl rfl ?_
   refine zCe rfl rfl rfl rfl ?_
   refine zCe rfl rfl rfl rfl ?_
   refine zD1 rfl rfl rfl rfl g3 ?_
   refine zCe rfl rfl rfl rfl ?_
   refine zCe rfl rfl rfl rfl ?_
   refine zCe rfl rfl rfl rfl ?_
   refine zD1 rfl rfl rfl rfl g3 ?_
   refine zCe rfl rfl rfl rfl ?_
   refine d_w rfl (fun _ => zBb (v := _) rfl rfl rfl rfl) rfl ?_
   refine zB5 ?_
   refine zAb (g8 _ _ (zBj rfl rfl ?_))
   refine zBr (zAj (zAj (zAy (zAb (g7 _ _ (zAf (fun gL gx => (zAf (fun gM gy => (zAa (zA2 rfl rfl (w_p (zAx rfl rfl) rfl ?_))))))))))))
   refine w_p (zBd underlying30 rfl rfl) rfl (w_p (zCk rfl rfl rfl rfl) rfl (zAe (zAb (gy _ _ (zAv rfl rfl (fun ge => ?_) (fun ge => ?_))))))
   ·
    try simp only [zS] at ge
    refine zAf (fun gN gz => (zAa (zA9 rfl rfl (zAe (zAb (gz _ _ (zA0 (zAh (zA1 (l := [.tmp 4]) (vs := [_]) rfl ⟨⟨rfl, (rfl : _ = Value.bool _)⟩, trivial⟩ ?_)))))))))
    exact ⟨(by first | (rw [zC7 hpre hia (by omega)]; rfl) | (rw [zCn hpre (by omega) (by omega)]; rfl) | (rw [zDn hpre (by omega) (by omega) (by first | assumption | omega)]; rfl)), g3⟩
   try simp only [zS] at ge
   refine zAr (zAb (gx _ _ (zAf (fun gO gj => (zCc [] [(0,0),(1,0),(2,0),(3,0),(4,0),(5,0),(6,0),(7,0),(8,1),(9,0),(10,0),(11,0),(12,1),(13,0),(14,0),(15,0)] zB7 (by kernel_rfl) g3 (fun gP g5 => ?_))))))
   refine d_w rfl (fun _ => zAu rfl rfl) rfl (d_w rfl (fun _ => zAx rfl rfl) rfl (d_w rfl (fun _ => zBd underlying30 rfl rfl) rfl (d_w rfl (fun _ => zCk rfl rfl rfl rfl) rfl (d_w rfl (fun _ => zAn rfl rfl) rfl ?_))))
   refine zEk (fun gf => ?_) (fun gf => ?_)
   ·
    try simp only [zS] at gf
    refine zCe rfl rfl rfl rfl ?_
    refine zCe rfl rfl rfl rfl ?_
    refine zCe rfl rfl rfl rfl ?_
    refine zD1 rfl rfl rfl rfl g5 ?_
    refine zCe rfl rfl rfl rfl ?_
    refine zCe rfl rfl rfl rfl ?_
    refine zCe rfl rfl rfl rfl ?_
    refine zD1 rfl rfl rfl rfl g5 ?_
    refine zCe rfl rfl rfl rfl ?_
    refine d_w rfl (fun _ => zAt (v := _) rfl rfl rfl rfl) rfl (d_w rfl (fun _ => zAl rfl rfl) rfl ?_)
    refine zB5 ?_
    refine zAb (gj _ _ (zA0 (zA1 (l := [.tmp 4]) (vs := [_]) rfl ⟨⟨rfl, (rfl : _ = Value.bool _)⟩, trivial⟩ ?_)))
    exact ⟨(by first | (rw [zC7 hpre hia (by omega)]; rfl) | (rw [zCn hpre (by omega) (by omega)]; rfl) | (rw [zDn hpre (by omega) (by omega) (by first | assumption | omega)]; rfl)), g5⟩
   try simp only [zS] at gf
   refine zCf rfl (zAm rfl rfl rfl) rfl (fun _ => (zAx rfl rfl)) ?_
   refine zCf rfl (zAm rfl rfl rfl) rfl (fun _ => (zAu rfl rfl)) ?_
   have hia2 : i < a.length := by omega
   have hib2 : i < b.length := by omega
   obtain ⟨ba, oa, rfl, hxa⟩ := zCy ha hia2
   obtain ⟨bb, ob, rfl, hxb⟩ := zCy hb hib2
   refine zCf rfl (zAm rfl rfl rfl) rfl (fun _ => (zA7 underlying30 sizeOf3 rfl rfl rfl rfl (i := _) rfl (by omega))) ?_
   refine zA3 rfl (zAm rfl rfl rfl) rfl g5 (fun _ hq => (zAi isAgg3 hq rfl rfl hxa)) ?_
   refine zCf rfl (zAm rfl rfl rfl) rfl (fun _ => (zAx rfl rfl)) ?_
   refine zCf rfl (zAm rfl rfl rfl) rfl (fun _ => (zAu rfl rfl)) ?_
   refine zCf rfl (zAm rfl rfl rfl) rfl (fun _ => (zA7 underlying30 sizeOf3 rfl rfl rfl rfl (i := _) rfl (by omega))) ?_
   refine zA3 rfl (zAm rfl rfl rfl) rfl g5 (fun _ hq => (zAi isAgg3 hq rfl rfl hxb)) ?_
   refine zCf rfl (zAm rfl rfl rfl) rfl (fun _ => (zCb rfl rfl rfl rfl)) ?_
   refine d_w rfl (fun _ => zBb (v := .bool _) rfl rfl rfl rfl) rfl (d_w rfl (fun _ => zAl rfl rfl) rfl ?_)
   refine zB5 ?_
   refine zAb (gj _ _ (zA0 (zA1 (l := [.tmp 4]) (vs := [_]) rfl ⟨⟨rfl, (rfl : _ = Value.bool _)⟩, trivial⟩ ?_)))
   exact ⟨(by first | (rw [zC7 hpre hia (by omega)]; rfl) | (rw [zCn hpre (by omega) (by omega)]; rfl) | (rw [zDn hpre (by omega) (by omega) (by first | assumption | omega)]; rfl)), g5⟩
  try simp only [zS] at g9
  refine zCe rfl rfl rfl rfl ?_
  refine zCe rfl rfl rfl rfl ?_
  refine zCe rfl rfl rfl rfl ?_
  refine zCe rfl rfl rfl rfl ?_
  refine d_w rfl (fun _ => zBb (v := _) rfl rfl rfl rfl) rfl (d_w rfl (fun _ => zAn rfl rfl) rfl ?_)
  refine zCe rfl rfl rfl rfl ?_
  refine zCe rfl rfl rfl rfl ?_
  refine zCe rfl rfl rfl rfl ?_
  refine zD1 rfl rfl rfl rfl g3 ?_
  refine zCe rfl rfl rfl rfl ?_
  refine zCe rfl rfl rfl rfl ?_
  refine zCe rfl rfl rfl rfl ?_
  refine zD1 rfl rfl rfl rfl g3 ?_
  refine zCe rfl rfl rfl rfl ?_
  refine d_w rfl (fun _ => zBb (v := _) rfl rfl rfl rfl) rfl ?_
  refine zB5 ?_
  refine zAb (g8 _ _ (zBj rfl rfl ?_))
  refine zBr (zAj (zAj (zAy (zAb (g7 _ _ (zAf (fun gQ gA => (zAf (fun gR gB => (zAa (zA2 rfl rfl (w_p (zAx rfl rfl) rfl ?_))))))))))))
  refine w_p (zBd underlying30 rfl rfl) rfl (w_p (zCk rfl rfl rfl rfl) rfl (zAe (zAb (gB _ _ (zAv rfl rfl (fun gg => ?_) (fun gg => ?_))))))
  ·
   try simp only [zS] at gg
   refine zAf (fun gS gC => (zAa (zA9 rfl rfl (zAe (zAb (gC _ _ (zA0 (zAh (zA1 (l := [.tmp 4]) (vs := [_]) rfl ⟨⟨rfl, (rfl : _ = Value.bool _)⟩, trivial⟩ ?_)))))))))
   exact ⟨(by first | (rw [zC7 hpre hia (by omega)]; rfl) | (rw [zCn hpre (by omega) (by omega)]; rfl) | (rw [zDn hpre (by omega) (by omega) (by first | assumption | omega)]; rfl)), g3⟩
  try simp only [zS] at gg
  refine zAr (zAb (gA _ _ (zAf (fun gT gk => (zCc [] [(0,0),(1,0),(2,0),(3,0),(4,0),(5,0),(6,0),(7,0),(8,1),(9,0),(10,0),(11,0),(12,1),(13,0),(14,0),(15,0)] zB7 (by kernel_rfl) g3 (fun gU g6 => ?_))))))
  refine d_w rfl (fun _ => zAu rfl rfl) rfl (d_w rfl (fun _ => zAx rfl rfl) rfl (d_w rfl (fun _ => zBd underlying30 rfl rfl) rfl (d_w rfl (fun _ => zCk rfl rfl rfl rfl) rfl (d_w rfl (fun _ => zAn rfl rfl) rfl ?_))))
  refine zEk (fun gh => ?_) (fun gh => ?_)
  ·
   try simp only [zS] at gh
   refine zCe rfl rfl rfl rfl ?_
   refine zCe rfl rfl rfl rfl ?_
   refine zCe rfl rfl rfl rfl ?_
   refine zD1 rfl rfl rfl rfl g6 ?_
   refine zCe rfl rfl rfl rfl ?_
   refine zCe rfl rfl rfl rfl ?_
   refine zCe rfl rfl rfl rfl ?_
   refine zD1 rfl rfl rfl rfl g6 ?_
   refine zCe rfl rfl rfl rfl ?_
   refine d_w rfl (fun _ => zAt (v := _) rfl rfl rfl rfl) rfl (d_w rfl (fun _ => zAl rfl rfl) rfl ?_)
   refine zB5 ?_
   refine zAb (gk _ _ (zA0 (zA1 (l := [.tmp 4]) (vs := [_]) rfl ⟨⟨rfl, (rfl : _ = Value.bool _)⟩, trivial⟩ ?_)))
   exact ⟨(by first | (rw [zC7 hpre hia (by omega)]; rfl) | (rw [zCn hpre (by omega) (by omega)]; rfl) | (rw [zDn hpre (by omega) (by omega) (by first | assumption | omega)]; rfl)), g6⟩
  try simp only [zS] at gh
  refine zCf rfl (zAm rfl rfl rfl) rfl (fun _ => (zAx rfl rfl)) ?_
  refine zCf rfl (zAm rfl rfl rfl) rfl (fun _ => (zAu rfl rfl)) ?_
  have hia2 : i < a.length := by omega
  have hib2 : i < b.length := by omega
  obtain ⟨ba, oa, rfl, hxa⟩ := zCy ha hia2
  obtain ⟨bb, ob, rfl, hxb⟩ := zCy hb hib2
  refine zCf rfl (zAm rfl rfl rfl) rfl (fun _ => (zA7 underlying30 sizeOf3 rfl rfl rfl rfl (i := _) rfl (by omega))) ?_
  refine zA3 rfl (zAm rfl rfl rfl) rfl g6 (fun _ hq => (zAi isAgg3 hq rfl rfl hxa)) ?_
  refine zCf rfl (zAm rfl rfl rfl) rfl (fun _ => (zAx rfl rfl)) ?_
  refine zCf rfl (zAm rfl rfl rfl) rfl (fun _ => (zAu rfl rfl)) ?_
  refine zCf rfl (zAm rfl rfl rfl) rfl (fun _ => (zA7 underlying30 sizeOf3 rfl rfl rfl rfl (i := _) rfl (by omega))) ?_
  refine zA3 rfl (zAm rfl rfl rfl) rfl g6 (fun _ hq => (zAi isAgg3 hq rfl rfl hxb)) ?_
  refine zCf rfl (zAm rfl rfl rfl) rfl (fun _ => (zCb rfl rfl rfl rfl)) ?_
  refine d_w rfl (fun _ => zBb (v := .bool _) rfl rfl rfl rfl) rfl (d_w rfl (fun _ => zAl rfl rfl) rfl ?_)
  refine zB5 ?_
  refine zAb (gk _ _ (zA0 (zA1 (l := [.tmp 4]) (vs := [_]) rfl ⟨⟨rfl, (rfl : _ = Value.bool _)⟩, trivial⟩ ?_)))
  exact ⟨(by first | (rw [zC7 hpre hia (by omega)]; rfl) | (rw [zCn hpre (by omega) (by omega)]; rfl) | (rw [zDn hpre (by omega) (by omega) (by first | assumption | omega)]; rfl)), g6⟩

theorem c33 {w0 w : World} {F : List (Nat × Obj)} (aa ab : Option Addr) (a b : List Int) (ca cb : Nat) (hla : a.length ≤ 9223372036854775807) (ha : Sl w0 F aa 1 (a.map fun x => [Value.int .i64 x])) (hb : Sl w0 F ab 1 (b.map fun x => [Value.int .i64 x])) (hs : St w0 w F) :
  Con Tryz.prog 33 [.slice aa a.length ca, .slice ab b.length cb] w fun v w' => v = .bool (decide (a = b)) ∧ St w0 w' F := by
  refine zAo (n := 22) func33 rfl rfl (zNl rfl) ?_
  refine zAf (fun K2 g5 => (zAa (zA9 rfl rfl (zAe (zAb (g5 _ _ (zAf (fun K4 g3 => (zAa (w_p (zAx rfl rfl) rfl (w_p (zBd underlying30 rfl rfl) rfl ?_)))))))))))
  refine w_p (zAx rfl rfl) rfl (w_p (zBd underlying30 rfl rfl) rfl (w_p (zCk rfl rfl rfl rfl) rfl (w_p (zAn rfl rfl) rfl (zBk (fun h5 => ?_) (fun h5 => ?_)))))
  ·
   try simp only [zS] at h5
   refine w_y rfl rfl rfl (zAx rfl rfl) rfl ?_
   refine w_y rfl rfl rfl (zAx rfl rfl) rfl ?_
   refine zA4 (zAm rfl rfl rfl) call66 rfl rfl rfl rfl (c66 _ _ _ _ _ _ (by omega) (by assumption) (by assumption) hs) ?_
   rintro _ w7 ⟨rfl, g4⟩
   refine w_y rfl rfl rfl (zC0 rfl rfl) rfl ?_
   refine w_p (zAt (v := .bool _) rfl rfl rfl rfl) rfl (w_p (zAn rfl rfl) rfl (zBk (fun h9 => ?_) (fun h9 => ?_)))
   ·
    try simp only [zS] at h9
    refine w_y rfl rfl rfl (zAx rfl rfl) rfl ?_
    refine w_y rfl rfl rfl (zAx rfl rfl) rfl ?_
    refine zA4 (zAm rfl rfl rfl) call66 rfl rfl rfl rfl (c66 _ _ _ _ _ _ (by omega) (by assumption) (by assumption) g4) ?_
    rintro _ g7 ⟨rfl, g6⟩
    refine w_y rfl rfl rfl (zC0 rfl rfl) rfl ?_
    refine w_p (zAt (v := .bool _) rfl rfl rfl rfl) rfl (w_p (zAl rfl rfl) rfl (zAe (zAb (g3 _ _ (zA0 (zA1 (l := [.tmp 4]) (vs := [_]) rfl ⟨⟨rfl, (rfl : _ = Value.bool _)⟩, trivial⟩ ?_))))))
    exact ⟨congrArg Value.bool (by rw [← ints_eq, Bool.eq_iff_iff]; simp [*] <;> omega), g6⟩
   try simp only [zS] at h9
   refine zAg rfl rfl rfl ?_
   refine zAg rfl rfl rfl ?_
   refine zAg rfl rfl rfl ?_
   refine zAg rfl rfl rfl ?_
   refine w_p (zBb (v := _) rfl rfl rfl rfl) rfl (w_p (zAl rfl rfl) rfl (zAe (zAb (g3 _ _ (zA0 (zA1 (l := [.tmp 4]) (vs := [_]) rfl ⟨⟨rfl, (rfl : _ = Value.bool _)⟩, trivial⟩ ?_))))))
   exact ⟨congrArg Value.bool (by rw [← ints_eq, Bool.eq_iff_iff]; simp [*] <;> omega), g4⟩
  try simp only [zS] at h5
  refine zAg rfl rfl rfl ?_
  refine zAg rfl rfl rfl ?_
  refine zAg rfl rfl rfl ?_
  refine zAg rfl rfl rfl ?_
  refine w_p (zBb (v := _) rfl rfl rfl rfl) rfl (w_p (zAn rfl rfl) rfl (zAg rfl rfl rfl ?_))
  refine zAg rfl rfl rfl ?_
  refine zAg rfl rfl rfl ?_
  refine zAg rfl rfl rfl ?_
  refine w_p (zBb (v := _) rfl rfl rfl rfl) rfl (w_p (zAl rfl rfl) rfl (zAe (zAb (g3 _ _ (zA0 (zA1 (l := [.tmp 4]) (vs := [_]) rfl ⟨⟨rfl, (rfl : _ = Value.bool _)⟩, trivial⟩ ?_))))))
  exact ⟨congrArg Value.bool (by rw [← ints_eq, Bool.eq_iff_iff]; simp [*] <;> omega), hs⟩

theorem sl_strs {w0 : World} {F : List (Nat × Obj)} {a : Option Addr} {l : List ByteArray} {i : Nat} (h : Sl w0 F a 1 (l.map fun x => [Value.string x])) (hi : i < l.length) :
    ∃ b off, a = some ⟨b, off, none⟩ ∧ Ats w0 F b (off + i * 1) [.string l[i]] := by
  obtain ⟨b, off, ha, _, hat⟩ := h.at (i := i) (row := [.string l[i]]) (by simp [hi])
  exact ⟨b, off, ha, hat⟩
theorem notmem_take {l : List ByteArray} {s : ByteArray} {i : Nat} (h : has (l.take i) s = false) (hi : i < l.length) (hne : ¬ l[i] = s) : has (l.take (i + 1)) s = false := by
  unfold has at *
  rw [List.take_succ_eq_append_getElem hi, List.any_append, h]; simp [hne]
theorem c54 {w0 w : World} {F : List (Nat × Obj)} (aa : Option Addr) (l : List ByteArray) (s : ByteArray) (ca : Nat) (hla : l.length ≤ 9223372036854775807) (ha : Sl w0 F aa 1 (l.map fun x => [Value.string x])) (hs : St w0 w F) :
  Con Tryz.prog 54 [.slice aa l.length ca, .string s] w fun v w' => (∃ z, v = .int .i64 z ∧ (0 ≤ z ↔ has l s = true)) ∧ St w0 w' F := by
  refine zAo (n := 25) func54 rfl rfl (zNl rfl) ?_
  refine zAf (fun K2 g9 => (zAa (zA9 rfl rfl (zAe (zAb (g9 _ _ (zAf (fun K4 ga => (zAa (zA9 rfl rfl (zAe (zAb (ga _ _ (zAf (fun K6 g7 => (zAw ?_))))))))))))))))
  refine zB2 [5,6,7,8,9,10,11,12,13,14,15,16,17,18,19] [5] (fun k vs w => ∃ i : Nat, vs = [.int .i64 i] ∧ i ≤ l.length ∧ k = l.length - i ∧ has (l.take i) s = false ∧ St w0 w F) (l.length) ?_ ?_
  ·
   exact ⟨0, rfl, by omega, by omega, rfl, hs⟩
  intro k vs μ w9 hI K8 gb
  obtain ⟨i, rfl, hia, rfl, hpre, hs⟩ := hI
  refine zAf (fun gm gc => (zAf (fun gn g8 => (zAa (zA2 rfl rfl (w_p (zAx rfl rfl) rfl (w_p (zBd underlying55 rfl rfl) rfl (w_p (zCb rfl rfl rfl rfl) rfl (w_p (zAn rfl rfl) rfl ?_)))))))))
  refine zBk (fun g3 => ?_) (fun g3 => ?_)
  ·
   try simp only [zS] at g3
   refine w_y rfl rfl rfl (zAx rfl rfl) rfl ?_
   refine w_y rfl rfl rfl (zAu rfl rfl) rfl ?_
   have hi2 : i < l.length := by omega
   obtain ⟨ba, oa, rfl, hxa⟩ := sl_strs ha hi2
   refine w_y rfl rfl rfl (zA7 underlying55 sizeOf9 rfl rfl rfl rfl (i := _) rfl (by omega)) rfl ?_
   refine w_y rfl rfl rfl (zAi isAgg9 hs rfl rfl hxa) rfl ?_
   refine w_y rfl rfl rfl (zBo (v := .string _) rfl rfl) rfl ?_
   refine w_y rfl rfl rfl (y_strNe rfl rfl rfl rfl) rfl ?_
   refine w_p (zAt (v := .bool _) rfl rfl rfl rfl) rfl (zAe (zAb (g8 _ _ (zAv rfl rfl (fun g4 => ?_) (fun g4 => ?_)))))
   ·
    try simp only [zS] at g4
    refine zAr (zAb (gc _ _ (zAw ?_)))
    refine zAa (zA2 rfl rfl (w_p (zBe rfl rfl rfl rfl (by omega) (by omega)) rfl (zBg rfl rfl (zAe (zAk (zAb (gb _ _ (nxI (l.length - (i + 1)) (by omega) ?_))))))))
    exact ⟨i + 1, rfl, by omega, rfl, notmem_take hpre (by omega) (by assumption), hs⟩
   try simp only [zS] at g4
   refine zBr (zAj (zAj (zAy (zAb (g7 _ _ (zAf (fun gq gd => (zAf (fun gr ge => (zAa (zA2 rfl rfl (w_p (zAx rfl rfl) rfl ?_))))))))))))
   refine w_p (zBd underlying55 rfl rfl) rfl (w_p (zCk rfl rfl rfl rfl) rfl (zAe (zAb (ge _ _ (zAv rfl rfl (fun g5 => ?_) (fun g5 => ?_))))))
   ·
    try simp only [zS] at g5
    refine zAf (fun gt gf => (zAa (zA9 rfl rfl (zAe (zAb (gf _ _ (zA0 (zAh (zA1 (l := [.tmp 4]) (vs := [_]) rfl ⟨⟨rfl, (rfl : _ = Value.int _ _)⟩, trivial⟩ ?_)))))))))
    first
      | exact ⟨⟨-1, rfl, by have hil : i = l.length := (by omega); subst hil; rw [List.take_length] at hpre; simp [hpre]⟩, hs⟩
      | exact ⟨⟨(i : Int), rfl, ⟨fun _ => (by have hi3 : i < l.length := (by omega); have he : l[i] = s := (by assumption); exact List.any_eq_true.2 ⟨_, List.getElem_mem hi3, by simp [he]⟩), fun _ => by omega⟩⟩, hs⟩
      | (exfalso; omega)
   try simp only [zS] at g5
   refine zAr (zAb (gd _ _ (zAf (fun gu gg => (zAa (zA2 rfl rfl (zBg rfl rfl (zAe (zAb (gg _ _ (zA0 (zA1 (l := [.tmp 4]) (vs := [_]) rfl ⟨⟨rfl, (rfl : _ = Value.int _ _)⟩, trivial⟩ ?_))))))))))))
   first
     | exact ⟨⟨-1, rfl, by have hil : i = l.length := (by omega); subst hil; rw [List.take_length] at hpre; simp [hpre]⟩, hs⟩
     | exact ⟨⟨(i : Int), rfl, ⟨fun _ => (by have hi3 : i < l.length := (by omega); have he : l[i] = s := (by assumption); exact List.any_eq_true.2 ⟨_, List.getElem_mem hi3, by simp [he]⟩), fun _ => by omega⟩⟩, hs⟩
     | (exfalso; omega)
  try simp only [zS] at g3
  refine zAg rfl rfl rfl ?_
  refine zAg rfl rfl rfl ?_
  refine zAg rfl rfl rfl ?_
  refine zAg rfl rfl rfl ?_
  refine zAg rfl rfl rfl ?_
  refine zAg rfl rfl rfl ?_
  refine w_p (zBb (v := _) rfl rfl rfl rfl) rfl (zAe (zAb (g8 _ _ (zBj rfl rfl ?_))))
  refine zBr (zAj (zAj (zAy (zAb (g7 _ _ (zAf (fun gw gh => (zAf (fun gx gi => (zAa (zA2 rfl rfl (w_p (zAx rfl rfl) rfl ?_))))))))))))
  refine w_p (zBd underlying55 rfl rfl) rfl (w_p (zCk rfl rfl rfl rfl) rfl (zAe (zAb (gi _ _ (zAv rfl rfl (fun g6 => ?_) (fun g6 => ?_))))))
  ·
   try simp only [zS] at g6
   refine zAf (fun gy gj => (zAa (zA9 rfl rfl (zAe (zAb (gj _ _ (zA0 (zAh (zA1 (l := [.tmp 4]) (vs := [_]) rfl ⟨⟨rfl, (rfl : _ = Value.int _ _)⟩, trivial⟩ ?_)))))))))
   first
     | exact ⟨⟨-1, rfl, by have hil : i = l.length := (by omega); subst hil; rw [List.take_length] at hpre; simp [hpre]⟩, hs⟩
     | exact ⟨⟨(i : Int), rfl, ⟨fun _ => (by have hi3 : i < l.length := (by omega); have he : l[i] = s := (by assumption); exact List.any_eq_true.2 ⟨_, List.getElem_mem hi3, by simp [he]⟩), fun _ => by omega⟩⟩, hs⟩
     | (exfalso; omega)
  try simp only [zS] at g6
  refine zAr (zAb (gh _ _ (zAf (fun gz gk => (zAa (zA2 rfl rfl (zBg rfl rfl (zAe (zAb (gk _ _ (zA0 (zA1 (l := [.tmp 4]) (vs := [_]) rfl ⟨⟨rfl, (rfl : _ = Value.int _ _)⟩, trivial⟩ ?_))))))))))))
  first
    | exact ⟨⟨-1, rfl, by have hil : i = l.length := (by omega); subst hil; rw [List.take_length] at hpre; simp [hpre]⟩, hs⟩
    | exact ⟨⟨(i : Int), rfl, ⟨fun _ => (by have hi3 : i < l.length := (by omega); have he : l[i] = s := (by assumption); exact List.any_eq_true.2 ⟨_, List.getElem_mem hi3, by simp [he]⟩), fun _ => by omega⟩⟩, hs⟩
    | (exfalso; omega)

theorem nmBytes_snoc (l : List UInt8) (c : UInt8) : ∀ f, nmBytes f (l ++ [c]) = (nmBytes f l && nmByte (f && l.isEmpty) c) := by
  induction l with
  | nil => intro f; simp [nmBytes]
  | cons x l ih => intro f; simp only [List.cons_append, nmBytes, ih]; simp [Bool.and_assoc]
theorem zEp (s : ByteArray) (i : Nat) (h : i < s.size) : nmBytes true (s.data.toList.take (i + 1)) = (nmBytes true (s.data.toList.take i) && nmByte (decide (i = 0)) s[i]) := by
  rw [List.take_succ_eq_append_getElem (by simpa using h), nmBytes_snoc]
  have e : (true && (s.data.toList.take i).isEmpty) = decide (i = 0) := by
    rw [Bool.eq_iff_iff]
    cases i with
    | zero => simp
    | succ i =>
      have : s.data.toList ≠ [] := by intro e; simp at e; have h2 : s.size = 0 := by rw [ByteArray.size, e]; rfl
                                      omega
      simp [this]
  rw [e]; rfl
theorem bp (x y : Bool) (k : IntKind) (a b : Int) (h1 : x = y) (h2 : a = b) : [Value.bool x, Value.int k a] = [Value.bool y, Value.int k b] := by rw [h1, h2]
theorem zDq (s : ByteArray) (i : Nat) (h : i < s.size) (x : Bool)
    (hx : x = ((decide (1 ≤ s.size) && decide (s.size ≤ 16) && nmBytes true (s.data.toList.take i)) && nmByte (decide (i = 0)) s[i])) : x = (decide (1 ≤ s.size) && decide (s.size ≤ 16) && nmBytes true (s.data.toList.take (i + 1))) := by
  rw [hx, zEp s i h, Bool.and_assoc]
theorem c55 {w0 w : World} {F : List (Nat × Obj)} (s : ByteArray) (hls : s.size ≤ 9223372036854775807) (hs : St w0 w F) :
  Con Tryz.prog 55 [.string s] w fun v w' => v = .bool (nmOk s) ∧ St w0 w' F := by
  refine zAo (n := 42) func55 rfl rfl (zNl rfl) ?_
  refine zAf (fun K2 gj => (zAa (zA9 rfl rfl (zAe (zAb (gj _ _ (zAf (fun K4 gk => (zAa (w_p (zBo (v := .string _) rfl rfl) rfl ?_))))))))))
  refine w_p (y_lenStr underlying9 rfl rfl) rfl (zCi zAc call17 rfl rfl rfl rfl (c17 _ _ _ hs) (fun w6 gm => ?_))
  refine w_p (zAl rfl rfl) rfl (zAe (zAb (gk _ _ (zAf (fun K9 gn => (zAf (fun gw gq => (zAa (zA9 rfl rfl (zAe (zAb (gq _ _ (zAw ?_)))))))))))))
  refine zB2 [3,4,5,9,10,11,12,13,14,15,16,17,18,19,20,21,22,23,24,25,26,27,28,29,30,31,32,33,34,35,36,37,38,39,40] [3,4] (fun k vs w => ∃ i : Nat, vs = [.bool (decide (1 ≤ s.size) && decide (s.size ≤ 16) && nmBytes true (s.data.toList.take i)), .int .i64 i] ∧ i ≤ s.size ∧ k = s.size - i ∧ St w0 w F) (s.size) ?_ ?_
  ·
   exact ⟨0, bp _ _ _ _ _ (by rw [Bool.eq_iff_iff]; simp [out, nmBytes] <;> omega) rfl, by omega, by omega, gm⟩
  intro k vs μ gx hI gy g3
  obtain ⟨i, rfl, hia, rfl, hs⟩ := hI
  generalize hfine : (decide (1 ≤ s.size) && decide (s.size ≤ 16) && nmBytes true (s.data.toList.take i)) = fine
  refine zAf (fun gz gr => (zAf (fun gA gt => (zAa (zA2 rfl rfl (w_p (zBo (v := .string _) rfl rfl) rfl (w_p (y_lenStr underlying9 rfl rfl) rfl (w_p (zCb rfl rfl rfl rfl) rfl ?_))))))))
  refine zAe (zAb (gt _ _ (zAv rfl rfl (fun g5 => ?_) (fun g5 => ?_))))
  ·
   try simp only [zS] at g5
   refine zAr (zAb (gr _ _ (zAf (fun gB g4 => (zAw ?_)))))
   refine zAf (fun gC g6 => ?_)
   have hi2 : i < s.size := by omega
   have hc0 : (0:Int) ≤ (s[i].toNat : Int) := by omega
   have hc1 : (s[i].toNat : Int) ≤ 255 := by have := s[i].toNat_lt; omega
   refine zAa (zA2 rfl rfl (w_p (zD5 rfl rfl rfl rfl) rfl (w_p (zAn rfl rfl) rfl (zBk (fun g7 => ?_) (fun g7 => ?_)))))
   ·
    try simp only [zS] at g7
    refine w_y rfl rfl rfl (zBo (v := .string _) rfl rfl) rfl ?_
    refine w_y rfl rfl rfl (zAu rfl rfl) rfl ?_
    refine w_y rfl rfl rfl (zF9 underlying9 rfl rfl rfl rfl (i := _) rfl (by omega)) rfl ?_
    refine w_y rfl rfl rfl (zCk rfl rfl rfl rfl) rfl ?_
    refine w_y rfl rfl rfl (zAn rfl rfl) rfl ?_
    refine zBk (fun g8 => ?_) (fun g8 => ?_)
    ·
     try simp only [zS] at g8
     refine zAg rfl rfl rfl ?_
     refine zAg rfl rfl rfl ?_
     refine zAg rfl rfl rfl ?_
     refine zAg rfl rfl rfl ?_
     refine zAg rfl rfl rfl ?_
     refine w_y rfl rfl rfl (zAt (v := _) rfl rfl rfl rfl) rfl ?_
     refine w_p (zAt (v := .bool _) rfl rfl rfl rfl) rfl (w_p (zAl rfl rfl) rfl (zAe (zAb (g6 _ _ (zAa (w_p (zAn rfl rfl) rfl (w_p (zAn rfl rfl) rfl ?_)))))))
     refine zBk (fun g9 => ?_) (fun g9 => ?_)
     ·
      try simp only [zS] at g9
      refine w_y rfl rfl rfl (zBo (v := .string _) rfl rfl) rfl ?_
      refine w_y rfl rfl rfl (zAu rfl rfl) rfl ?_
      refine w_y rfl rfl rfl (zF9 underlying9 rfl rfl rfl rfl (i := _) rfl (by omega)) rfl ?_
      refine w_y rfl rfl rfl (zG2 (by rw [underlying5]; rfl) underlying3 rfl rfl (by omega) (by omega)) rfl ?_
      refine zA4 (zAm rfl rfl rfl) call17 rfl rfl rfl rfl (c17 _ _ _ hs) ?_
      rintro _ gD ⟨rfl, gf⟩
      refine w_y rfl rfl rfl (zAn rfl rfl) rfl ?_
      refine zBk (fun ga => ?_) (fun ga => ?_)
      ·
       try simp only [zS] at ga
       refine zAg rfl rfl rfl ?_
       refine w_y rfl rfl rfl (zAt (v := _) rfl rfl rfl rfl) rfl ?_
       refine w_p (zAt (v := .bool _) rfl rfl rfl rfl) rfl (w_p (zAl rfl rfl) rfl (zAe (zAk (zAb (g4 _ _ (zAa (zA2 rfl rfl (w_p (zBe rfl rfl rfl rfl (by omega) (by omega)) rfl ?_))))))))
       refine zBg rfl rfl (zAe (zAb (g3 _ _ (nxI (s.size - (i + 1)) (by omega) ?_))))
       exact ⟨i + 1, bp _ _ _ _ _ (zDq s i (by omega) _ (by rw [hfine, Bool.eq_iff_iff]; simp only [*]; simp [nmByte, out] <;> omega)) rfl, by omega, rfl, gf⟩
      try simp only [zS] at ga
      refine w_y rfl rfl rfl (zAn rfl rfl) rfl ?_
      refine w_y rfl rfl rfl (zBb (v := .bool _) rfl rfl rfl rfl) rfl ?_
      refine w_p (zAt (v := .bool _) rfl rfl rfl rfl) rfl (w_p (zAl rfl rfl) rfl (zAe (zAk (zAb (g4 _ _ (zAa (zA2 rfl rfl (w_p (zBe rfl rfl rfl rfl (by omega) (by omega)) rfl ?_))))))))
      refine zBg rfl rfl (zAe (zAb (g3 _ _ (nxI (s.size - (i + 1)) (by omega) ?_))))
      exact ⟨i + 1, bp _ _ _ _ _ (zDq s i (by omega) _ (by rw [hfine, Bool.eq_iff_iff]; simp only [*]; simp [nmByte, out] <;> omega)) rfl, by omega, rfl, gf⟩
     try simp only [zS] at g9
     refine zAg rfl rfl rfl ?_
     refine zAg rfl rfl rfl ?_
     refine zAg rfl rfl rfl ?_
     refine zAg rfl rfl rfl ?_
     refine zAg rfl rfl rfl ?_
     refine zAg rfl rfl rfl ?_
     refine zBa rfl rfl rfl ?_
     refine zAg rfl rfl rfl ?_
     refine w_p (zBb (v := _) rfl rfl rfl rfl) rfl (w_p (zAl rfl rfl) rfl (zAe (zAk (zAb (g4 _ _ (zAa (zA2 rfl rfl (w_p (zBe rfl rfl rfl rfl (by omega) (by omega)) rfl ?_))))))))
     refine zBg rfl rfl (zAe (zAb (g3 _ _ (nxI (s.size - (i + 1)) (by omega) ?_))))
     exact ⟨i + 1, bp _ _ _ _ _ (zDq s i (by omega) _ (by rw [hfine, Bool.eq_iff_iff]; simp only [*]; simp [nmByte, out] <;> omega)) rfl, by omega, rfl, hs⟩
    try simp only [zS] at g8
    refine w_y rfl rfl rfl (zBo (v := .string _) rfl rfl) rfl ?_
    refine w_y rfl rfl rfl (zAu rfl rfl) rfl ?_
    refine w_y rfl rfl rfl (zF9 underlying9 rfl rfl rfl rfl (i := _) rfl (by omega)) rfl ?_
    refine w_y rfl rfl rfl (zG2 (by rw [underlying5]; rfl) underlying3 rfl rfl (by omega) (by omega)) rfl ?_
    refine zA4 (zAm rfl rfl rfl) call17 rfl rfl rfl rfl (c17 _ _ _ hs) ?_
    rintro _ gE ⟨rfl, gg⟩
    refine w_y rfl rfl rfl (zBb (v := .bool _) rfl rfl rfl rfl) rfl ?_
    refine w_p (zAt (v := .bool _) rfl rfl rfl rfl) rfl (w_p (zAl rfl rfl) rfl (zAe (zAb (g6 _ _ (zAa (w_p (zAn rfl rfl) rfl (w_p (zAn rfl rfl) rfl ?_)))))))
    refine zBk (fun gb => ?_) (fun gb => ?_)
    ·
     try simp only [zS] at gb
     refine w_y rfl rfl rfl (zBo (v := .string _) rfl rfl) rfl ?_
     refine w_y rfl rfl rfl (zAu rfl rfl) rfl ?_
     refine w_y rfl rfl rfl (zF9 underlying9 rfl rfl rfl rfl (i := _) rfl (by omega)) rfl ?_
     refine w_y rfl rfl rfl (zG2 (by rw [underlying5]; rfl) underlying3 rfl rfl (by omega) (by omega)) rfl ?_
     refine zA4 (zAm rfl rfl rfl) call17 rfl rfl rfl rfl (c17 _ _ _ gg) ?_
     rintro _ gF ⟨rfl, gh⟩
     refine w_y rfl rfl rfl (zAn rfl rfl) rfl ?_
     refine zBk (fun gc => ?_) (fun gc => ?_)
     ·
      try simp only [zS] at gc
      refine zAg rfl rfl rfl ?_
      refine w_y rfl rfl rfl (zAt (v := _) rfl rfl rfl rfl) rfl ?_
      refine w_p (zAt (v := .bool _) rfl rfl rfl rfl) rfl (w_p (zAl rfl rfl) rfl (zAe (zAk (zAb (g4 _ _ (zAa (zA2 rfl rfl (w_p (zBe rfl rfl rfl rfl (by omega) (by omega)) rfl ?_))))))))
      refine zBg rfl rfl (zAe (zAb (g3 _ _ (nxI (s.size - (i + 1)) (by omega) ?_))))
      exact ⟨i + 1, bp _ _ _ _ _ (zDq s i (by omega) _ (by rw [hfine, Bool.eq_iff_iff]; simp only [*]; simp [nmByte, out] <;> omega)) rfl, by omega, rfl, gh⟩
     try simp only [zS] at gc
     refine w_y rfl rfl rfl (zAn rfl rfl) rfl ?_
     refine w_y rfl rfl rfl (zBb (v := .bool _) rfl rfl rfl rfl) rfl ?_
     refine w_p (zAt (v := .bool _) rfl rfl rfl rfl) rfl (w_p (zAl rfl rfl) rfl (zAe (zAk (zAb (g4 _ _ (zAa (zA2 rfl rfl (w_p (zBe rfl rfl rfl rfl (by omega) (by omega)) rfl ?_))))))))
     refine zBg rfl rfl (zAe (zAb (g3 _ _ (nxI (s.size - (i + 1)) (by omega) ?_))))
     exact ⟨i + 1, bp _ _ _ _ _ (zDq s i (by omega) _ (by rw [hfine, Bool.eq_iff_iff]; simp only [*]; simp [nmByte, out] <;> omega)) rfl, by omega, rfl, gh⟩
    try simp only [zS] at gb
    refine zAg rfl rfl rfl ?_
    refine zAg rfl rfl rfl ?_
    refine zAg rfl rfl rfl ?_
    refine zAg rfl rfl rfl ?_
    refine zAg rfl rfl rfl ?_
    refine zAg rfl rfl rfl ?_
    refine zBa rfl rfl rfl ?_
    refine zAg rfl rfl rfl ?_
    refine w_p (zBb (v := _) rfl rfl rfl rfl) rfl (w_p (zAl rfl rfl) rfl (zAe (zAk (zAb (g4 _ _ (zAa (zA2 rfl rfl (w_p (zBe rfl rfl rfl rfl (by omega) (by omega)) rfl ?_))))))))
    refine zBg rfl rfl (zAe (zAb (g3 _ _ (nxI (s.size - (i + 1)) (by omega) ?_))))
    exact ⟨i + 1, bp _ _ _ _ _ (zDq s i (by omega) _ (by rw [hfine, Bool.eq_iff_iff]; simp only [*]; simp [nmByte, out] <;> omega)) rfl, by omega, rfl, gg⟩
   try simp only [zS] at g7
   refine zAg rfl rfl rfl ?_
   refine zAg rfl rfl rfl ?_
   refine zAg rfl rfl rfl ?_
   refine zAg rfl rfl rfl ?_
   refine zAg rfl rfl rfl ?_
   refine zBa rfl rfl rfl ?_
   refine zBa rfl rfl rfl ?_
   refine zBa rfl rfl rfl ?_
   refine zBa rfl rfl rfl ?_
   refine zBa rfl rfl rfl ?_
   refine zAg rfl rfl rfl ?_
   refine w_p (zBb (v := _) rfl rfl rfl rfl) rfl (w_p (zAl rfl rfl) rfl (zAe (zAb (g6 _ _ (zAa (w_p (zAn rfl rfl) rfl (w_p (zAn rfl rfl) rfl ?_)))))))
   refine zBk (fun gd => ?_) (fun gd => ?_)
   ·
    try simp only [zS] at gd
    refine w_y rfl rfl rfl (zBo (v := .string _) rfl rfl) rfl ?_
    refine w_y rfl rfl rfl (zAu rfl rfl) rfl ?_
    refine w_y rfl rfl rfl (zF9 underlying9 rfl rfl rfl rfl (i := _) rfl (by omega)) rfl ?_
    refine w_y rfl rfl rfl (zG2 (by rw [underlying5]; rfl) underlying3 rfl rfl (by omega) (by omega)) rfl ?_
    refine zA4 (zAm rfl rfl rfl) call17 rfl rfl rfl rfl (c17 _ _ _ hs) ?_
    rintro _ gG ⟨rfl, gi⟩
    refine w_y rfl rfl rfl (zAn rfl rfl) rfl ?_
    refine zBk (fun ge => ?_) (fun ge => ?_)
    ·
     try simp only [zS] at ge
     refine zAg rfl rfl rfl ?_
     refine w_y rfl rfl rfl (zAt (v := _) rfl rfl rfl rfl) rfl ?_
     refine w_p (zAt (v := .bool _) rfl rfl rfl rfl) rfl (w_p (zAl rfl rfl) rfl (zAe (zAk (zAb (g4 _ _ (zAa (zA2 rfl rfl (w_p (zBe rfl rfl rfl rfl (by omega) (by omega)) rfl ?_))))))))
     refine zBg rfl rfl (zAe (zAb (g3 _ _ (nxI (s.size - (i + 1)) (by omega) ?_))))
     exact ⟨i + 1, bp _ _ _ _ _ (zDq s i (by omega) _ (by rw [hfine, Bool.eq_iff_iff]; simp only [*]; simp [nmByte, out] <;> omega)) rfl, by omega, rfl, gi⟩
    try simp only [zS] at ge
    refine w_y rfl rfl rfl (zAn rfl rfl) rfl ?_
    refine w_y rfl rfl rfl (zBb (v := .bool _) rfl rfl rfl rfl) rfl ?_
    refine w_p (zAt (v := .bool _) rfl rfl rfl rfl) rfl (w_p (zAl rfl rfl) rfl (zAe (zAk (zAb (g4 _ _ (zAa (zA2 rfl rfl (w_p (zBe rfl rfl rfl rfl (by omega) (by omega)) rfl ?_))))))))
    refine zBg rfl rfl (zAe (zAb (g3 _ _ (nxI (s.size - (i + 1)) (by omega) ?_))))
    exact ⟨i + 1, bp _ _ _ _ _ (zDq s i (by omega) _ (by rw [hfine, Bool.eq_iff_iff]; simp only [*]; simp [nmByte, out] <;> omega)) rfl, by omega, rfl, gi⟩
   try simp only [zS] at gd
   refine zAg rfl rfl rfl ?_
   refine zAg rfl rfl rfl ?_
   refine zAg rfl rfl rfl ?_
   refine zAg rfl rfl rfl ?_
   refine zAg rfl rfl rfl ?_
   refine zAg rfl rfl rfl ?_
   refine zBa rfl rfl rfl ?_
   refine zAg rfl rfl rfl ?_
   refine w_p (zBb (v := _) rfl rfl rfl rfl) rfl (w_p (zAl rfl rfl) rfl (zAe (zAk (zAb (g4 _ _ (zAa (zA2 rfl rfl (w_p (zBe rfl rfl rfl rfl (by omega) (by omega)) rfl ?_))))))))
   refine zBg rfl rfl (zAe (zAb (g3 _ _ (nxI (s.size - (i + 1)) (by omega) ?_))))
   exact ⟨i + 1, bp _ _ _ _ _ (zDq s i (by omega) _ (by rw [hfine, Bool.eq_iff_iff]; simp only [*]; simp [nmByte, out] <;> omega)) rfl, by omega, rfl, hs⟩
  try simp only [zS] at g5
  refine zBr (zAj (zAj (zAy (zAb (gn _ _ (zAf (fun gH gu => (zAa (w_p (zAn rfl rfl) rfl (w_p (zAl rfl rfl) rfl ?_))))))))))
  refine zAe (zAb (gu _ _ (zA0 (zA1 (l := [.tmp 2]) (vs := [_]) rfl ⟨⟨rfl, (rfl : _ = Value.bool _)⟩, trivial⟩ ?_))))
  exact ⟨congrArg Value.bool (by have hil : i = s.size := (by omega); subst hil; rw [← hfine]; unfold nmOk; rw [List.take_of_length_le (by simp)]), hs⟩

theorem c15 {w0 w : World} {F : List (Nat × Obj)} (s : ByteArray) (aa : Option Addr) (l : List ByteArray) (ca : Nat) (hls : s.size ≤ 9223372036854775807) (hla : l.length ≤ 9223372036854775807) (ha : Sl w0 F aa 1 (l.map fun x => [Value.string x])) (hs : St w0 w F) :
  Con Tryz.prog 15 [.string s, .slice aa l.length ca] w fun v w' => v = .int .i64 (if nmOk s = false then 6 else if has l s then 5 else 0) ∧ St w0 w' F := by
  refine zAo (n := 14) func15 rfl rfl (zNl rfl) ?_
  refine zAf (fun K2 gc => (zAa (zA9 rfl rfl (zAe (zAb (gc _ _ (zAf (fun K4 gd => (zAa (zA9 rfl rfl (zAe (zAb (gd _ _ (zAf (fun K6 g6 => (zAf (fun K8 ge => (zAa (w_p (zAx rfl rfl) rfl ?_)))))))))))))))))))
  refine w_p (zBo (v := .string _) rfl rfl) rfl (zA4 zAc call54 rfl rfl rfl rfl (c54 _ _ _ _ (by omega) (by assumption) hs) ?_)
  rintro _ gm ⟨⟨z, rfl, hz⟩, g7⟩
  refine w_p (zHv rfl rfl rfl rfl) rfl (zAe (zAb (ge _ _ (zAv rfl rfl (fun g3 => ?_) (fun g3 => ?_)))))
  ·
   try simp only [zS] at g3
   refine zAa (zA9 rfl rfl (zAe (zAb (g6 _ _ (zAf (fun gn g8 => (zAf (fun gq gf => (zAa (w_p (zBo (v := .string _) rfl rfl) rfl ?_))))))))))
   refine zCi zAc call55 rfl rfl rfl rfl (c55 _ (by omega) g7) (fun gr g9 => ?_)
   refine w_p (zC0 rfl rfl) rfl (zAe (zAb (gf _ _ (zAv rfl rfl (fun g4 => ?_) (fun g4 => ?_)))))
   ·
    try simp only [zS] at g4
    refine zAa (zA9 rfl rfl (zAe (zAb (g8 _ _ (zAf (fun gt gg => (zAa (zA2 rfl rfl (zBg rfl rfl (zAe (zAb (gg _ _ (zA0 (zA1 (l := [.tmp 4]) (vs := [_]) rfl ⟨⟨rfl, (rfl : _ = Value.int _ _)⟩, trivial⟩ ?_))))))))))))))
    exact ⟨congrArg (Value.int .i64) (by have hz2 : has l s = decide (0 ≤ z) := (by rw [Bool.eq_iff_iff]; simp [hz]); rw [hz2]; clear hz hz2; simp [*] <;> (repeat' split) <;> omega), g9⟩
   try simp only [zS] at g4
   refine zAr (zAb (g8 _ _ (zAf (fun gu gh => (zAa (zA2 rfl rfl (zBg rfl rfl (zAe (zAb (gh _ _ (zA0 (zA1 (l := [.tmp 4]) (vs := [_]) rfl ⟨⟨rfl, (rfl : _ = Value.int _ _)⟩, trivial⟩ ?_))))))))))))
   exact ⟨congrArg (Value.int .i64) (by have hz2 : has l s = decide (0 ≤ z) := (by rw [Bool.eq_iff_iff]; simp [hz]); rw [hz2]; clear hz hz2; simp [*] <;> (repeat' split) <;> omega), g9⟩
  try simp only [zS] at g3
  refine zAr (zAb (g6 _ _ (zAf (fun gw ga => (zAf (fun gx gi => (zAa (w_p (zBo (v := .string _) rfl rfl) rfl (zCi zAc call55 rfl rfl rfl rfl (c55 _ (by omega) g7) (fun gy gb => ?_))))))))))
  refine w_p (zC0 rfl rfl) rfl (zAe (zAb (gi _ _ (zAv rfl rfl (fun g5 => ?_) (fun g5 => ?_)))))
  ·
   try simp only [zS] at g5
   refine zAa (zA9 rfl rfl (zAe (zAb (ga _ _ (zAf (fun gz gj => (zAa (zA2 rfl rfl (zBg rfl rfl (zAe (zAb (gj _ _ (zA0 (zA1 (l := [.tmp 4]) (vs := [_]) rfl ⟨⟨rfl, (rfl : _ = Value.int _ _)⟩, trivial⟩ ?_))))))))))))))
   exact ⟨congrArg (Value.int .i64) (by have hz2 : has l s = decide (0 ≤ z) := (by rw [Bool.eq_iff_iff]; simp [hz]); rw [hz2]; clear hz hz2; simp [*] <;> (repeat' split) <;> omega), gb⟩
  try simp only [zS] at g5
  refine zAr (zAb (ga _ _ (zAf (fun gA gk => (zAa (zA2 rfl rfl (zBg rfl rfl (zAe (zAb (gk _ _ (zA0 (zA1 (l := [.tmp 4]) (vs := [_]) rfl ⟨⟨rfl, (rfl : _ = Value.int _ _)⟩, trivial⟩ ?_))))))))))))
  exact ⟨congrArg (Value.int .i64) (by have hz2 : has l s = decide (0 ≤ z) := (by rw [Bool.eq_iff_iff]; simp [hz]); rw [hz2]; clear hz hz2; simp [*] <;> (repeat' split) <;> omega), gb⟩

theorem any_take {l : List Int} {p : Int → Bool} {i : Nat} (h : (l.take i).any p = false) (hi : i < l.length) (hp : p l[i] = false) : (l.take (i + 1)).any p = false := by
  rw [List.take_succ_eq_append_getElem hi, List.any_append, h]; simp [hp]
theorem c112 {w0 w : World} {F : List (Nat × Obj)} (aa : Option Addr) (l : List Int) (ca : Nat) (hla : l.length ≤ 9223372036854775807) (ha : Sl w0 F aa 1 (l.map fun x => [Value.int .i64 x])) {fk : FuncId} (hC : CF Tryz.prog fk) (first captured : Array Value) (p : Int → Bool)
    (hp : ∀ x ∈ l, ∀ w, St w0 w F → Con Tryz.prog fk (first.toList ++ ([.int .i64 x] ++ captured.toList)) w fun v w' => v = .bool (p x) ∧ St w0 w' F) (hs : St w0 w F) :
  Con Tryz.prog 112 [.slice aa l.length ca, .func (.func fk) first captured] w fun v w' => (∃ z, v = .int .i64 z ∧ decide (0 ≤ z) = l.any p) ∧ St w0 w' F := by
  refine zAo (n := 19) func112 rfl rfl (zNl rfl) ?_
  refine zAf (fun K2 g6 => (zAa (zA9 rfl rfl (zAe (zAb (g6 _ _ (zAf (fun K4 g7 => (zAf (fun K6 g8 => (zAa (w_p (zAx rfl rfl) rfl ?_))))))))))))
  refine w_p (zBd underlying30 rfl rfl) rfl (w_p (zBo (v := _) rfl rfl) rfl (zAe (zAb (g8 _ _ (zAw ?_)))))
  refine zB2 [4,5,8,9,10,11,12,13,14,15,16,17,18] [8] (fun k vs w => ∃ i : Nat, vs = [.int .i64 i] ∧ i ≤ l.length ∧ k = l.length - i ∧ (l.take i).any p = false ∧ St w0 w F) (l.length) ?_ ?_
  ·
   exact ⟨0, rfl, by omega, by omega, by simp, hs⟩
  intro k vs μ w9 hI K8 g9
  obtain ⟨i, rfl, hia, rfl, hpre, hs⟩ := hI
  refine zAf (fun gh ga => (zAa (w_p (zCb rfl rfl rfl rfl) rfl (zAe (zAb (ga _ _ (zAf (fun gi gb => (zAv rfl rfl (fun g3 => ?_) (fun g3 => ?_))))))))))
  ·
   try simp only [zS] at g3
   refine zAr (zAb (gb _ _ (zAf (fun gj gc => (zAw ?_)))))
   refine zAf (fun gk gd => (zAa (zA2 rfl rfl (zBg rfl rfl (zAe (zAb (gd _ _ (zAf (fun gm ge => ?_)))))))))
   have hi2 : i < l.length := by omega
   obtain ⟨ba, oa, rfl, hxa⟩ := zCy ha hi2
   refine zAa (w_p (zBo (v := .func _ _ _) rfl rfl) rfl (w_p (zAx rfl rfl) rfl (zA2 rfl rfl (w_p (zA7 underlying30 sizeOf3 rfl rfl rfl rfl (i := _) rfl (by omega)) rfl (w_p (zAi isAgg3 hs rfl rfl hxa) rfl ?_)))))
   refine zCi zAc hC rfl rfl rfl rfl (hp _ (List.getElem_mem hi2) _ hs) (fun gn g4 => ?_)
   refine zAe (zAb (ge _ _ (zAv rfl rfl (fun g5 => ?_) (fun g5 => ?_))))
   ·
    try simp only [zS] at g5
    refine zAf (fun gq gf => (zAa (zA2 rfl rfl (zBg rfl rfl (zAe (zAb (gf _ _ (zA0 (zAz (zAh (zAh (zAz (zAh (zA1 (l := [.tmp 4]) (vs := [_]) rfl ⟨⟨rfl, (rfl : _ = Value.int _ _)⟩, trivial⟩ ?_))))))))))))))
    first
      | exact ⟨⟨-1, rfl, by have hil : i = l.length := (by omega); subst hil; rw [List.take_length] at hpre; rw [hpre]; rfl⟩, g4⟩
      | exact ⟨⟨(i : Int), rfl, by rw [Bool.eq_iff_iff]; simp only [decide_eq_true_eq, List.any_eq_true]; exact ⟨fun _ => ⟨_, List.getElem_mem hi2, by assumption⟩, fun _ => by omega⟩⟩, g4⟩
   try simp only [zS] at g5
   refine zAr (zAk (zAb (gc _ _ (zAa (w_p (zBe rfl rfl rfl rfl (by omega) (by omega)) rfl (zA2 rfl rfl (zAe (zAb (g9 _ _ (nxI (l.length - (i + 1)) (by omega) ?_))))))))))
   exact ⟨i + 1, rfl, by omega, rfl, any_take hpre (by omega) (by assumption), g4⟩
  try simp only [zS] at g3
  refine zBr (zAj (zAj (zAy (zAb (g7 _ _ (zAf (fun gr gg => (zAa (zA9 rfl rfl (zAe (zAb (gg _ _ (zA0 (zA1 (l := [.tmp 4]) (vs := [_]) rfl ⟨⟨rfl, (rfl : _ = Value.int _ _)⟩, trivial⟩ ?_))))))))))))))
  first
    | exact ⟨⟨-1, rfl, by have hil : i = l.length := (by omega); subst hil; rw [List.take_length] at hpre; rw [hpre]; rfl⟩, hs⟩
    | exact ⟨⟨(i : Int), rfl, by rw [Bool.eq_iff_iff]; simp only [decide_eq_true_eq, List.any_eq_true]; exact ⟨fun _ => ⟨_, List.getElem_mem hi2, by assumption⟩, fun _ => by omega⟩⟩, hs⟩

theorem c83 {w0 w : World} {F : List (Nat × Obj)} (aa : Option Addr) (l : List Int) (ca : Nat) (hla : l.length ≤ 9223372036854775807) (ha : Sl w0 F aa 1 (l.map fun x => [Value.int .i64 x])) {fk : FuncId} (hC : CF Tryz.prog fk) (first captured : Array Value) (p : Int → Bool)
    (hp : ∀ x ∈ l, ∀ w, St w0 w F → Con Tryz.prog fk (first.toList ++ ([.int .i64 x] ++ captured.toList)) w fun v w' => v = .bool (p x) ∧ St w0 w' F) (hs : St w0 w F) :
  Con Tryz.prog 83 [.slice aa l.length ca, .func (.func fk) first captured] w fun v w' => v = .bool (l.any p) ∧ St w0 w' F := by
  refine zAo (n := 9) func83 rfl rfl (zNl rfl) ?_
  refine zAf (fun K2 g3 => (zAa (zA9 rfl rfl (zAe (zAb (g3 _ _ (zAf (fun K4 g4 => (zAa (w_p (zAx rfl rfl) rfl (w_p (zBo (v := .func _ _ _) rfl rfl) rfl ?_)))))))))))
  refine zA4 zAc call112 rfl rfl rfl rfl (c112 _ _ _ hla ha hC _ _ p hp hs) ?_
  rintro _ w6 ⟨⟨z, rfl, hz⟩, g5⟩
  refine w_p (zHv rfl rfl rfl rfl) rfl (w_p (zAl rfl rfl) rfl (zAe (zAb (g4 _ _ (zA0 (zA1 (l := [.tmp 4]) (vs := [_]) rfl ⟨⟨rfl, (rfl : _ = Value.bool _)⟩, trivial⟩ ?_))))))
  exact ⟨congrArg Value.bool hz, g5⟩

theorem c121 {w0 w : World} {F : List (Nat × Obj)} (n lo hi : Int) (b1 b2 : Nat) (h1 : Ats w0 F b1 0 [.int .i64 lo]) (h2 : Ats w0 F b2 0 [.int .i64 hi]) (hs : St w0 w F) :
  Con Tryz.prog 121 [.int .i64 n, .pointer (some ⟨b1,0, none⟩), .pointer (some ⟨b2,0, none⟩)] w fun v w' => v = .bool (out lo hi n) ∧ St w0 w' F := by
  refine zAo (n := 13) func121 rfl rfl (zNl rfl) ?_
  refine zAf (fun K2 g4 => (zAa (zA9 rfl rfl (zAe (zAb (g4 _ _ (zAf (fun K4 g3 => (zAa (zA2 rfl rfl (w_p (zAi isAgg3 hs rfl rfl h1) rfl ?_)))))))))))
  refine w_p (zCb rfl rfl rfl rfl) rfl (w_p (zAn rfl rfl) rfl (zBk (fun h5 => ?_) (fun h5 => ?_)))
  ·
   try simp only [zS] at h5
   refine zAg rfl rfl rfl ?_
   refine zAg rfl rfl rfl ?_
   refine zAg rfl rfl rfl ?_
   refine w_p (zAt (v := _) rfl rfl rfl rfl) rfl (w_p (zAl rfl rfl) rfl (zAe (zAb (g3 _ _ (zA0 (zA1 (l := [.tmp 4]) (vs := [_]) rfl ⟨⟨rfl, (rfl : _ = Value.bool _)⟩, trivial⟩ ?_))))))
   exact ⟨congrArg Value.bool (by rw [Bool.eq_iff_iff]; simp [out, *] <;> omega), hs⟩
  try simp only [zS] at h5
  refine w_y rfl rfl rfl (zAu rfl rfl) rfl ?_
  refine w_y rfl rfl rfl (zAi isAgg3 hs rfl rfl h2) rfl ?_
  refine w_y rfl rfl rfl (zD5 rfl rfl rfl rfl) rfl ?_
  refine w_p (zBb (v := .bool _) rfl rfl rfl rfl) rfl (w_p (zAl rfl rfl) rfl (zAe (zAb (g3 _ _ (zA0 (zA1 (l := [.tmp 4]) (vs := [_]) rfl ⟨⟨rfl, (rfl : _ = Value.bool _)⟩, trivial⟩ ?_))))))
  exact ⟨congrArg Value.bool (by rw [Bool.eq_iff_iff]; simp [out, *] <;> omega), hs⟩

theorem c115 {w0 w : World} {F : List (Nat × Obj)} (lo hi : Int) (aa : Option Addr) (l : List Int) (ca : Nat) (hla : l.length ≤ 9223372036854775807) (ha : Sl w0 F aa 1 (l.map fun x => [Value.int .i64 x])) (hs : St w0 w F) :
  Con Tryz.prog 115 [.int .i64 lo, .int .i64 hi, .slice aa l.length ca] w fun v w' => v = .bool (l.any (out lo hi)) ∧ St w0 w' F := by
  refine zAo (n := 10) func115 rfl rfl (zNl rfl) ?_
  refine zAf (fun K2 g3 => (zAa (zCd (v := .int _ _) (cs := [_]) zAc rfl rfl rfl hs (fun b3 w4 g4 => ?_))))
  refine zCd (v := .int _ _) (cs := [_]) zAc rfl rfl rfl g4 (fun b6 w7 g5 => ?_)
  refine zA9 rfl rfl (zAe (zAb (g3 _ _ (zAf (fun g8 g6 => (zAa (w_p (zAx rfl rfl) rfl (w_p (zCl (fv := []) (cv := [_,_]) rfl rfl rfl rfl) rfl ?_))))))))
  refine zCi zAc call83 rfl rfl rfl rfl (c83 _ _ _ hla ha.cons.cons call121 _ _ (out lo hi) (fun x _ w hs => c121 _ _ _ _ _ (aow 1 [_]) (aow 0 [_]) hs) g5) (fun g9 g7 => ?_)
  refine w_p (zAl rfl rfl) rfl (zAe (zAb (g6 _ _ (zA0 (zA1 (l := [.tmp 6]) (vs := [_]) rfl ⟨⟨rfl, (rfl : _ = Value.bool _)⟩, trivial⟩ ?_)))))
  exact ⟨rfl, g7.tail.tail⟩

theorem c111 {w0 w : World} {F : List (Nat × Obj)} (n lo hi : Int) (b1 b2 : Nat) (h1 : Ats w0 F b1 0 [.int .i64 lo]) (h2 : Ats w0 F b2 0 [.int .i64 hi]) (hs : St w0 w F) :
  Con Tryz.prog 111 [.int .i64 n, .pointer (some ⟨b1,0, none⟩), .pointer (some ⟨b2,0, none⟩)] w fun v w' => v = .bool (out lo hi n) ∧ St w0 w' F := by
  refine zAo (n := 13) func111 rfl rfl (zNl rfl) ?_
  refine zAf (fun K2 g4 => (zAa (zA9 rfl rfl (zAe (zAb (g4 _ _ (zAf (fun K4 g3 => (zAa (zA2 rfl rfl (w_p (zAi isAgg3 hs rfl rfl h1) rfl ?_)))))))))))
  refine w_p (zCb rfl rfl rfl rfl) rfl (w_p (zAn rfl rfl) rfl (zBk (fun h5 => ?_) (fun h5 => ?_)))
  ·
   try simp only [zS] at h5
   refine zAg rfl rfl rfl ?_
   refine zAg rfl rfl rfl ?_
   refine zAg rfl rfl rfl ?_
   refine w_p (zAt (v := _) rfl rfl rfl rfl) rfl (w_p (zAl rfl rfl) rfl (zAe (zAb (g3 _ _ (zA0 (zA1 (l := [.tmp 4]) (vs := [_]) rfl ⟨⟨rfl, (rfl : _ = Value.bool _)⟩, trivial⟩ ?_))))))
   exact ⟨congrArg Value.bool (by rw [Bool.eq_iff_iff]; simp [out, *] <;> omega), hs⟩
  try simp only [zS] at h5
  refine w_y rfl rfl rfl (zAu rfl rfl) rfl ?_
  refine w_y rfl rfl rfl (zAi isAgg3 hs rfl rfl h2) rfl ?_
  refine w_y rfl rfl rfl (zD5 rfl rfl rfl rfl) rfl ?_
  refine w_p (zBb (v := .bool _) rfl rfl rfl rfl) rfl (w_p (zAl rfl rfl) rfl (zAe (zAb (g3 _ _ (zA0 (zA1 (l := [.tmp 4]) (vs := [_]) rfl ⟨⟨rfl, (rfl : _ = Value.bool _)⟩, trivial⟩ ?_))))))
  exact ⟨congrArg Value.bool (by rw [Bool.eq_iff_iff]; simp [out, *] <;> omega), hs⟩

theorem c78 {w0 w : World} {F : List (Nat × Obj)} (lo hi : Int) (aa : Option Addr) (l : List Int) (ca : Nat) (hla : l.length ≤ 9223372036854775807) (ha : Sl w0 F aa 1 (l.map fun x => [Value.int .i64 x])) (hs : St w0 w F) :
  Con Tryz.prog 78 [.int .i64 lo, .int .i64 hi, .slice aa l.length ca] w fun v w' => v = .bool (l.any (out lo hi)) ∧ St w0 w' F := by
  refine zAo (n := 10) func78 rfl rfl (zNl rfl) ?_
  refine zAf (fun K2 g3 => (zAa (zCd (v := .int _ _) (cs := [_]) zAc rfl rfl rfl hs (fun b3 w4 g4 => ?_))))
  refine zCd (v := .int _ _) (cs := [_]) zAc rfl rfl rfl g4 (fun b6 w7 g5 => ?_)
  refine zA9 rfl rfl (zAe (zAb (g3 _ _ (zAf (fun g8 g6 => (zAa (w_p (zAx rfl rfl) rfl (w_p (zCl (fv := []) (cv := [_,_]) rfl rfl rfl rfl) rfl ?_))))))))
  refine zCi zAc call83 rfl rfl rfl rfl (c83 _ _ _ hla ha.cons.cons call111 _ _ (out lo hi) (fun x _ w hs => c111 _ _ _ _ _ (aow 1 [_]) (aow 0 [_]) hs) g5) (fun g9 g7 => ?_)
  refine w_p (zAl rfl rfl) rfl (zAe (zAb (g6 _ _ (zA0 (zA1 (l := [.tmp 6]) (vs := [_]) rfl ⟨⟨rfl, (rfl : _ = Value.bool _)⟩, trivial⟩ ?_)))))
  exact ⟨rfl, g7.tail.tail⟩

theorem c84 {w0 w : World} {F : List (Nat × Obj)} (n lo hi : Int) (b1 b2 : Nat) (h1 : Ats w0 F b1 0 [.int .i64 lo]) (h2 : Ats w0 F b2 0 [.int .i64 hi]) (hs : St w0 w F) :
  Con Tryz.prog 84 [.int .i64 n, .pointer (some ⟨b1,0, none⟩), .pointer (some ⟨b2,0, none⟩)] w fun v w' => v = .bool (out lo hi n) ∧ St w0 w' F := by
  refine zAo (n := 13) func84 rfl rfl (zNl rfl) ?_
  refine zAf (fun K2 g4 => (zAa (zA9 rfl rfl (zAe (zAb (g4 _ _ (zAf (fun K4 g3 => (zAa (zA2 rfl rfl (w_p (zAi isAgg3 hs rfl rfl h1) rfl ?_)))))))))))
  refine w_p (zCb rfl rfl rfl rfl) rfl (w_p (zAn rfl rfl) rfl (zBk (fun h5 => ?_) (fun h5 => ?_)))
  ·
   try simp only [zS] at h5
   refine zAg rfl rfl rfl ?_
   refine zAg rfl rfl rfl ?_
   refine zAg rfl rfl rfl ?_
   refine w_p (zAt (v := _) rfl rfl rfl rfl) rfl (w_p (zAl rfl rfl) rfl (zAe (zAb (g3 _ _ (zA0 (zA1 (l := [.tmp 4]) (vs := [_]) rfl ⟨⟨rfl, (rfl : _ = Value.bool _)⟩, trivial⟩ ?_))))))
   exact ⟨congrArg Value.bool (by rw [Bool.eq_iff_iff]; simp [out, *] <;> omega), hs⟩
  try simp only [zS] at h5
  refine w_y rfl rfl rfl (zAu rfl rfl) rfl ?_
  refine w_y rfl rfl rfl (zAi isAgg3 hs rfl rfl h2) rfl ?_
  refine w_y rfl rfl rfl (zD5 rfl rfl rfl rfl) rfl ?_
  refine w_p (zBb (v := .bool _) rfl rfl rfl rfl) rfl (w_p (zAl rfl rfl) rfl (zAe (zAb (g3 _ _ (zA0 (zA1 (l := [.tmp 4]) (vs := [_]) rfl ⟨⟨rfl, (rfl : _ = Value.bool _)⟩, trivial⟩ ?_))))))
  exact ⟨congrArg Value.bool (by rw [Bool.eq_iff_iff]; simp [out, *] <;> omega), hs⟩

theorem c51 {w0 w : World} {F : List (Nat × Obj)} (lo hi : Int) (aa : Option Addr) (l : List Int) (ca : Nat) (hla : l.length ≤ 9223372036854775807) (ha : Sl w0 F aa 1 (l.map fun x => [Value.int .i64 x])) (hs : St w0 w F) :
  Con Tryz.prog 51 [.int .i64 lo, .int .i64 hi, .slice aa l.length ca] w fun v w' => v = .bool (l.any (out lo hi)) ∧ St w0 w' F := by
  refine zAo (n := 10) func51 rfl rfl (zNl rfl) ?_
  refine zAf (fun K2 g3 => (zAa (zCd (v := .int _ _) (cs := [_]) zAc rfl rfl rfl hs (fun b3 w4 g4 => ?_))))
  refine zCd (v := .int _ _) (cs := [_]) zAc rfl rfl rfl g4 (fun b6 w7 g5 => ?_)
  refine zA9 rfl rfl (zAe (zAb (g3 _ _ (zAf (fun g8 g6 => (zAa (w_p (zAx rfl rfl) rfl (w_p (zCl (fv := []) (cv := [_,_]) rfl rfl rfl rfl) rfl ?_))))))))
  refine zCi zAc call83 rfl rfl rfl rfl (c83 _ _ _ hla ha.cons.cons call84 _ _ (out lo hi) (fun x _ w hs => c84 _ _ _ _ _ (aow 1 [_]) (aow 0 [_]) hs) g5) (fun g9 g7 => ?_)
  refine w_p (zAl rfl rfl) rfl (zAe (zAb (g6 _ _ (zA0 (zA1 (l := [.tmp 6]) (vs := [_]) rfl ⟨⟨rfl, (rfl : _ = Value.bool _)⟩, trivial⟩ ?_)))))
  exact ⟨rfl, g7.tail.tail⟩

end Go.Proofs
/- Plain words of the hand layer: lots, their errors, their ways. No conditions. -/
namespace Go.Rt.Ha
structure Grade where
  name : ByteArray
  hands : Int
  scars : Int
structure Bunch where
  lo : Int
  hi : Int
  slo : Int
  shi : Int
structure Count where
  bits : Int
  hands : Int
structure Lot where
  grades : List Grade
  bunches : List Bunch
  counts : List Count
def Grade.cells (g : Grade) : List Value := [.string g.name, .int .i64 g.hands, .int .i64 g.scars]
def Bunch.cells (b : Bunch) : List Value := [.int .i64 b.lo, .int .i64 b.hi, .int .i64 b.slo, .int .i64 b.shi]
def Count.cells (c : Count) : List Value := [.int .i64 c.bits, .int .i64 c.hands]
structure At3 where
  ag : Option Addr
  cg : Nat
  ab : Option Addr
  cb : Nat
  ac : Option Addr
  cc : Nat
def Lot.cells (l : Lot) (p : At3) : List Value := [.slice p.ag l.grades.length p.cg, .slice p.ab l.bunches.length p.cb, .slice p.ac l.counts.length p.cc]
def grows (l : List Grade) : List (List Value) := l.map Grade.cells
def firstE {α : Type} (err : List α → α → Int) : List α → Int → List α → Int × Int
  | _,_, [] => (0,0)
  | b, i, x :: l => if err b x = 0 then firstE err (b ++ [x]) (i + 1) l else (i, err b x)
theorem zDj {α : Type} {err : List α → α → Int} {l : List α} {i : Nat} (hi : i < l.length) (h : err (l.take i) l[i] = 0) : firstE err (l.take i) i (l.drop i) = firstE err (l.take (i + 1)) (i + 1 : Nat) (l.drop (i + 1)) := by
  rw [List.drop_eq_getElem_cons hi]
  simp only [firstE, h, if_true]
  rw [List.take_succ_eq_append_getElem hi]; rfl
theorem zAp {α : Type} {err : List α → α → Int} {l : List α} {i : Nat} (hi : i < l.length) (h : err (l.take i) l[i] ≠ 0) : firstE err (l.take i) i (l.drop i) = ((i : Int), err (l.take i) l[i]) := by
  rw [List.drop_eq_getElem_cons hi]
  simp only [firstE, if_neg h]
theorem zB4 {α : Type} {err : List α → α → Int} {l : List α} {i : Nat} (hi : l.length ≤ i) (b : List α) : firstE err b i (l.drop i) = (0,0) := by
  rw [List.drop_of_length_le hi]; rfl
def nameE (before : List ByteArray) (s : ByteArray) : Int := if nmOk s then (if has before s then 5 else 0) else 6
def notBelow (before : List Grade) (g : Grade) : Bool := match before.getLast? with | none => false | some q => decide (q.hands ≤ g.hands) || decide (g.scars < q.scars)
def gradeE (before : List Grade) (g : Grade) : Int := if nameE (before.map (·.name)) g.name ≠ 0 then nameE (before.map (·.name)) g.name else if out 1 12 g.hands || out 0 9 g.scars then 7 else if notBelow before g then 2 else 0
def bunchE (_before : List Bunch) (b : Bunch) : Int := if out 1 12 b.lo || out 1 12 b.hi || (out 0 9 b.slo || out 0 9 b.shi) then 7 else if out 0 3 (b.hi - b.lo) || decide (b.shi < b.slo) then 2 else 0
def countE (n : Nat) (_before : List Count) (c : Count) : Int := if out 1 (2 ^ n - 1) c.bits then 4 else if out 0 72 c.hands then 7 else 0
def failE {α : Type} (err : List α → α → Int) (lo most : Int) (l : List α) : Int × Int := if out lo most l.length then (0,3) else firstE err [] 0 l
def check (l : Lot) : Int × Int × Int :=
  if (failE gradeE 1 4 l.grades).2 ≠ 0 then (1, failE gradeE 1 4 l.grades) else if (failE bunchE 0 6 l.bunches).2 ≠ 0 then (2, failE bunchE 0 6 l.bunches) else if (failE (countE l.bunches.length) 0 4 l.counts).2 ≠ 0 then (3, failE (countE l.bunches.length) 0 4 l.counts) else (0,0,0)
def upto (lo : Int) : Nat → List Int
  | 0 => []
  | n + 1 => lo :: upto (lo + 1) n
def spanL (lo hi : Int) : List Int := upto lo (hi + 1 - lo).toNat
def felt : List Bunch → List (List Int)
  | [] => [[]]
  | b :: l => (spanL b.lo b.hi).flatMap fun n => (felt l).map (n :: ·)
def bit (b j : Nat) : Nat := (b >>> j) &&& 1
def counted (bits : Nat) : Nat → List Int → Int
  | _, [] => 0
  | i, h :: l => (if bit bits i = 1 then h else 0) + counted bits (i + 1) l
def soFrom (but : Nat) (h : List Int) : Nat → List Count → Bool
  | _, [] => true
  | i, c :: l => (decide (bit but i = 1) || decide (counted c.bits.toNat 0 h = c.hands)) && soFrom but h (i + 1) l
def ways (l : Lot) (but : Nat) : List (List Int) := (felt l.bunches).filter fun h => soFrom but h 0 l.counts
def ofG : List Grade → Int → Int → Int → Int
  | [], _,_, _ => -1
  | g :: l, i, h, s => if g.hands ≤ h ∧ s ≤ g.scars then i else ofG l (i + 1) h s
def orG (gs : List Grade) (h : Int) : List Int → Nat
  | [] => 0
  | s :: l => 1 <<< (ofG gs 0 h s + 1).toNat ||| orG gs h l
def gradesB (l : Lot) (b : Bunch) (h : Int) : Nat := orG l.grades h (spanL b.slo b.shi)
end Go.Rt.Ha
/- Plain words of the hand layer: what the program's functions return. No conditions. -/
namespace Go.Rt.Ha
def enterE (l : Lot) (e : Int) : Int := if (check l).2.2 ≠ 0 then (check l).2.2 else if e ≠ 0 then e else if ways l 0 = [] then 8 else 0
def at_ (h : List Int) (b : Nat) : Int := h.getD b 0
def bunchOf (l : Lot) (b : Nat) : Bunch := l.bunches.getD b ⟨0,0,0,0⟩
def listL (b : Nat) : Nat → List Int
  | 0 => []
  | n + 1 => listL b n ++ if bit b n = 1 then [(n : Int)] else []
def sumsTo (l : Lot) (g : Nat) (h : List Int) : Nat → Int × Int
  | 0 => (0,0)
  | k + 1 => let s := sumsTo l g h k; let z := gradesB l (bunchOf l k) (at_ h k)
    if z = 2 <<< g then (s.1 + at_ h k, s.2 + at_ h k) else if bit z (g + 1) = 1 then (s.1, s.2 + at_ h k) else s
def sums (l : Lot) (g : Nat) (h : List Int) : Int × Int := sumsTo l g h l.bunches.length
def before (a b : List Int) : Bool := decide (a.length < b.length) || (decide (a.length = b.length) && less a b)
def fewStep (do_ : Nat → Bool) (n : Nat) (s : List Int × Bool) (b : Nat) : List Int × Bool := if s.2 && before s.1 (listL b n) then s else if do_ b then (listL b n, true) else s
def fewTo (do_ : Nat → Bool) (n : Nat) : Nat → List Int × Bool
  | 0 => ([], false)
  | k + 1 => fewStep do_ n (fewTo do_ n k) k
def fewest (do_ : Nat → Bool) (n : Nat) : List Int × Bool := fewTo do_ n (1 <<< n)
def bitDiff (a b : Nat) : Nat := a &&& (a ^^^ b)
end Go.Rt.Ha
/- Plain words of the room layer: rooms, their errors, the points that bunches can have on days, plans. No conditions. -/
namespace Go.Rt.Ro
open Go.Rt.Ha (firstE failE bit listL)
structure Sett where
  name : ByteArray
  lo : Int
  hi : Int
structure Room where
  days : Int
  lo : Int
  hi : Int
  sets : List Sett
  opens : Int
  ran : List Int
  looks : List (Int × Int)
structure AtR where
  as_ : Option Addr
  cs : Nat
  ar : Option Addr
  cr : Nat
  al : Option Addr
  cl : Nat
def Sett.cells (s : Sett) : List Value := [.string s.name, .int .i64 s.lo, .int .i64 s.hi]
def lcells (x : Int × Int) : List Value := [.int .i64 x.1, .int .i64 x.2]
def Room.cells (r : Room) (p : AtR) : List Value := [.int .i64 r.days, .int .i64 r.lo, .int .i64 r.hi, .slice p.as_ r.sets.length p.cs, .int .i64 r.opens, .slice p.ar r.ran.length p.cr, .slice p.al r.looks.length p.cl]
def trows (l : List Sett) : List (List Value) := l.map Sett.cells
def lrows (l : List (Int × Int)) : List (List Value) := l.map lcells
def setE (bf : List Sett) (s : Sett) : Int := if nmOk s.name = false then 6 else if has (bf.map (·.name)) s.name then 5 else ends s.lo s.hi 0 15
def ranE (n : Nat) (_bf : List Int) (z : Int) : Int := if out 0 ((n : Int) - 1) z then 4 else 0
def lookE (n : Nat) (_bf : List (Int × Int)) (x : Int × Int) : Int := if out 0 (n : Int) x.1 || out 1 7 x.2 then 7 else 0
def check (r : Room) : Int × Int × Int :=
  if out 1 6 r.days || decide (ends r.lo r.hi 0 69 = 7) || out 0 6 r.opens then (1,0,7) else if ends r.lo r.hi 0 69 ≠ 0 then (1,0, ends r.lo r.hi 0 69) else
  if (failE setE 1 4 r.sets).2 ≠ 0 then (2, failE setE 1 4 r.sets) else if (failE (ranE r.sets.length) 0 r.days r.ran).2 ≠ 0 then (3, failE (ranE r.sets.length) 0 r.days r.ran) else
  if (failE (lookE r.ran.length) 0 4 r.looks).2 ≠ 0 then (4, failE (lookE r.ran.length) 0 4 r.looks) else (0,0,0)
structure Room.Ok (r : Room) : Prop where
  days : 1 ≤ r.days ∧ r.days ≤ 6
  start : 0 ≤ r.lo ∧ r.lo ≤ r.hi ∧ r.hi ≤ 69
  opens : 0 ≤ r.opens ∧ r.opens ≤ 6
  ls : 1 ≤ r.sets.length ∧ r.sets.length ≤ 4
  sets : ∀ s ∈ r.sets, nmOk s.name = true ∧ 0 ≤ s.lo ∧ s.lo ≤ s.hi ∧ s.hi ≤ 15
  nd : (r.sets.map (·.name)).Nodup
  lr : (r.ran.length : Int) ≤ r.days
  ran : ∀ z ∈ r.ran, 0 ≤ z ∧ z < r.sets.length
  ll : r.looks.length ≤ 4
  looks : ∀ x ∈ r.looks, 0 ≤ x.1 ∧ x.1 ≤ r.ran.length ∧ 1 ≤ x.2 ∧ x.2 ≤ 7
def colour (p : Int) : Int := min 7 (1 + p / 10)
def colours (s : Int × Int) : Int × Int := (colour s.1, colour s.2)
def plus (a b : Int × Int) : Int × Int := (a.1 + b.1, a.2 + b.2)
def both (a b : Int × Int) : Int × Int := (max a.1 b.1, min a.2 b.2)
def ofC (c : Int) : Int × Int := ((c - 1) * 10, if c = 7 then 1000 else c * 10 - 1)
def setAt (r : Room) (i : Nat) : Sett := r.sets.getD i ⟨ByteArray.empty, 0,0⟩
def gainN (r : Room) (z : Int) : Int × Int := ((setAt r z.toNat).lo, (setAt r z.toNat).hi)
def gain (r : Room) (d : Nat) : Int × Int := gainN r (r.ran.getD d 0)
def lookAt (r : Room) (i : Nat) : Int × Int := r.looks.getD i (0,0)
def seeAt (r : Room) (but d i : Nat) (s : Int × Int) : Int × Int := if (lookAt r i).1 = (d : Int) ∧ bit but i = 0 then both s (ofC (lookAt r i).2) else s
def seeTo (r : Room) (but d : Nat) (s : Int × Int) : Nat → Int × Int
  | 0 => s
  | i + 1 => seeAt r but d i (seeTo r but d s i)
def see (r : Room) (but d : Nat) (s : Int × Int) : Int × Int := seeTo r but d s r.looks.length
def sp (r : Room) (but : Nat) : Nat → Int × Int
  | 0 => see r but 0 (r.lo, r.hi)
  | d + 1 => see r but (d + 1) (plus (sp r but d) (gain r d))
def fwd (r : Room) (but : Nat) : Nat → Bool
  | 0 => true
  | d + 1 => fwd r but d && decide ((sp r but d).1 ≤ (sp r but d).2)
def lookB (r : Room) (but : Nat) : Bool := fwd r but (r.ran.length + 1)
def put2 (P : List Int) (d : Nat) (s : Int × Int) : List Int := (P.set (2 * d) s.1).set (2 * d + 1) s.2
def at2 (P : List Int) (d : Nat) : Int × Int := (P.getD (2 * d) 0, P.getD (2 * d + 1) 0)
def zeros : List Int := List.replicate 14 0
def fwdP (r : Room) (but : Nat) : Nat → List Int
  | 0 => zeros
  | d + 1 => put2 (fwdP r but d) d (sp r but d)
def pts0 (r : Room) (but : Nat) : List Int := fwdP r but (r.ran.length + 1)
def backS (r : Room) (P : List Int) (d : Nat) : Int × Int := ((at2 P (d + 1)).1 - (gain r d).2, (at2 P (d + 1)).2 - (gain r d).1)
def backTo (r : Room) (P : List Int) : Nat → List Int
  | 0 => P
  | d + 1 => put2 (backTo r P d) d (both (at2 (backTo r P d) d) (backS r (backTo r P d) d))
def back (r : Room) (P : List Int) : List Int := backTo r P r.ran.length
def backN (r : Room) (P : List Int) : Nat → List Int
  | 0 => P
  | k + 1 => back r (backN r P k)
def pts (r : Room) (but : Nat) : List Int := if pts0 r but = zeros then zeros else backN r (pts0 r but) r.ran.length
structure Plan where
  l : List Int
  ways : List Int
  ch : Int
def Plan.cells (p : Plan) (a : Option Addr) (c : Nat) : List Value := .slice a p.l.length c :: (iv p.ways ++ [.int .i64 p.ch])
def noPlan : Plan := ⟨[], [0,0,0,0], 0⟩
def Plan.more (p : Plan) (before : Int) (n : Nat) : Plan := ⟨p.l ++ [(n : Int)], p.ways.set n (p.ways.getD n 0 + 1), if 0 ≤ before ∧ (n : Int) ≠ before then p.ch + 1 else p.ch⟩
def plansF (sets : Nat) (changes : Int) : Nat → Int → Plan → List Plan
  | 0, _, p => if p.ch = changes then [p] else []
  | k + 1, before, p => (List.range sets).flatMap fun n : Nat => if 0 ≤ before ∧ (n : Int) ≠ before ∧ p.ch = changes then [] else plansF sets changes k (n : Int) (p.more before n)
def sumTo (r : Room) (w : List Int) : Nat → Int × Int
  | 0 => (0,0)
  | i + 1 => plus (sumTo r w i) (w.getD i 0 * (setAt r i).lo, w.getD i 0 * (setAt r i).hi)
def sum (r : Room) (w : List Int) : Int × Int := sumTo r w r.sets.length
def gives (r : Room) (now : Int × Int) (want : Int) (p : Plan) : Bool := decide (colours (plus now (sum r p.ways)) = (want, want))
def firstN (r : Room) (now : Int × Int) (before : Int) (many : Nat) (want : Int) : Nat → Option Plan
  | 0 => none
  | c + 1 => match firstN r now before many want c with | some p => some p | none => (plansF r.sets.length (c : Int) many before noPlan).find? (gives r now want)
def first (r : Room) (now : Int × Int) (before : Int) (many : Nat) (want : Int) : Option Plan := firstN r now before many want (min r.opens.toNat many + 1)
def beforeR (r : Room) : Int := if r.ran.length = 0 then -1 else r.ran.getD (r.ran.length - 1) 0
def today (r : Room) : Int × Int := at2 (pts r 0) r.ran.length
def planO (r : Room) (day want : Int) : Option Plan := first r (today r) (beforeR r) (day - r.ran.length).toNat want
def reachTo (r : Room) (day : Int) : Nat → List Int
  | 0 => []
  | w + 1 => if (planO r day (w + 1)).isSome then reachTo r day w ++ [((w + 1 : Nat) : Int)] else reachTo r day w
def goTo (r : Room) (s : Int × Int) (l : List Int) : Nat → Int × Int
  | 0 => s
  | i + 1 => plus (goTo r s l i) (gainN r (l.getD i 0))
def become (r : Room) (l : List Int) : Int × Int := colours (goTo r (today r) l l.length)
end Go.Rt.Ro
/- Plain words of lists in their order, and of all sets of some numbers, for all layers. No conditions. -/
namespace Go.Rt
def hasI (l : List Int) (z : Int) : Bool := l.any fun y => decide (y = z)
theorem zGr {l : List Int} {z : Int} {i : Nat} (hi : i < l.length) : hasI (l.take (i + 1)) z = (hasI (l.take i) z || decide (l[i] = z)) := by
  unfold hasI; rw [List.take_succ_eq_append_getElem hi, List.any_append]; simp
theorem hasI_mem {l : List Int} {z : Int} : hasI l z = true ↔ z ∈ l := by simp [hasI]
namespace Ls
def before (a b : List Int) : Bool := decide (a.length < b.length) || (decide (a.length = b.length) && less a b)
end Ls
end Go.Rt
/- Plain laws of the hand layer: the first of the fewest. No conditions. -/
namespace Go.Rt.Ha
end Go.Rt.Ha
/- Plain laws of the hand layer: grades as lists and as bits, spans, sums. No conditions. -/
namespace Go.Rt.Ha
end Go.Rt.Ha
/- Plain laws of the hand layer: lots that are, their ways, totals. No conditions. -/
namespace Go.Rt.Ha
structure Lot.Ok (l : Lot) : Prop where
  lg : 1 ≤ l.grades.length ∧ l.grades.length ≤ 4
  lb : l.bunches.length ≤ 6
  lc : l.counts.length ≤ 4
  grade : ∀ g ∈ l.grades, 1 ≤ g.hands ∧ g.hands ≤ 12 ∧ 0 ≤ g.scars ∧ g.scars ≤ 9
  bunch : ∀ b ∈ l.bunches, 1 ≤ b.lo ∧ b.lo ≤ b.hi ∧ b.hi ≤ 12 ∧ b.hi - b.lo ≤ 3 ∧ 0 ≤ b.slo ∧ b.slo ≤ b.shi ∧ b.shi ≤ 9
  count : ∀ c ∈ l.counts, 1 ≤ c.bits ∧ c.bits ≤ 2 ^ l.bunches.length - 1 ∧ 0 ≤ c.hands ∧ c.hands ≤ 72
theorem zEr {α : Type} (err : List α → α → Int) : ∀ (l b : List α) (i : Int), (firstE err b i l).2 = 0 → ∀ k (h : k < l.length), err (b ++ l.take k) l[k] = 0
  | [], _,_,_, k, h => by simp at h
  | x :: l, b, i, h, k, hk => by
    unfold firstE at h
    by_cases he : err b x = 0
    · rw [if_pos he] at h
      match k with
      | 0 => simpa using he
      | k + 1 =>
        have := zEr err l (b ++ [x]) (i + 1) h k (by simpa using hk)
        simpa using this
    · rw [if_neg he] at h
      exact absurd h he
theorem failE_zero {α : Type} {err : List α → α → Int} {lo most : Int} {l : List α} (h : (failE err lo most l).2 = 0) : (lo ≤ l.length ∧ (l.length : Int) ≤ most) ∧ ∀ k (h : k < l.length), err (l.take k) l[k] = 0 := by
  unfold failE at h
  split at h
  · cases h
  · rename_i ho
    unfold out at ho
    simp only [Bool.or_eq_true, decide_eq_true_eq, not_or] at ho
    exact ⟨by omega, fun k hk => by simpa using zEr err l [] 0 h k hk⟩
theorem check_parts {l : Lot} (h : (check l).2.2 = 0) : (failE gradeE 1 4 l.grades).2 = 0 ∧ (failE bunchE 0 6 l.bunches).2 = 0 ∧ (failE (countE l.bunches.length) 0 4 l.counts).2 = 0 := by
  unfold check at h
  split at h
  · rename_i h1; exact absurd h h1
  · rename_i h1
    split at h
    · rename_i h2; exact absurd h h2
    · rename_i h2
      split at h
      · rename_i h3; exact absurd h h3
      · rename_i h3
        exact ⟨by omega, by omega, by omega⟩
theorem check_ok {l : Lot} (h : (check l).2.2 = 0) : l.Ok := by
  obtain ⟨h1, h2, h3⟩ := check_parts h
  have h1 := failE_zero h1
  have h2 := failE_zero h2
  have h3 := failE_zero h3
  refine ⟨by omega, by omega, by omega, fun g hg => ?_, fun b hb => ?_, fun c hc => ?_⟩
  · obtain ⟨k, hk, rfl⟩ := List.getElem_of_mem hg
    have := h1.2 k hk
    unfold gradeE out at this
    split at this
    · rename_i h; exact absurd this h
    · split at this
      · cases this
      · rename_i h
        simp only [Bool.or_eq_true, decide_eq_true_eq, not_or] at h
        omega
  · obtain ⟨k, hk, rfl⟩ := List.getElem_of_mem hb
    have := h2.2 k hk
    unfold bunchE out at this
    split at this
    · cases this
    · rename_i h
      simp only [Bool.or_eq_true, decide_eq_true_eq, not_or] at h
      split at this
      · cases this
      · rename_i h'
        simp only [Bool.or_eq_true, decide_eq_true_eq, not_or] at h'
        omega
  · obtain ⟨k, hk, rfl⟩ := List.getElem_of_mem hc
    have := h3.2 k hk
    unfold countE out at this
    split at this
    · cases this
    · rename_i h
      simp only [Bool.or_eq_true, decide_eq_true_eq, not_or] at h
      split at this
      · cases this
      · rename_i h'
        simp only [Bool.or_eq_true, decide_eq_true_eq, not_or] at h'
        omega
end Go.Rt.Ha
/- Plain facts of the room layer: what a room without an error is like. No conditions. -/
namespace Go.Rt.Ro
open Go.Rt.Ha (firstE failE failE_zero bit listL)
theorem out_f {lo hi n : Int} : out lo hi n = false ↔ lo ≤ n ∧ n ≤ hi := by
  unfold out; simp only [Bool.or_eq_false_iff, decide_eq_false_iff_not]; omega
theorem ends_z {a b lo hi : Int} (h : ends a b lo hi = 0) : lo ≤ a ∧ a ≤ b ∧ b ≤ hi := by
  unfold ends at h
  split at h
  · cases h
  · rename_i h1
    simp only [Bool.or_eq_true, not_or, Bool.not_eq_true] at h1
    have h2 := out_f.1 h1.1; have h3 := out_f.1 h1.2
    split at h
    · cases h
    · omega
theorem nodup_of {l : List ByteArray} (h : ∀ k (hk : k < l.length), has (l.take k) l[k] = false) : l.Nodup := by
  rw [List.nodup_iff_pairwise_ne, List.pairwise_iff_getElem]
  intro i j hi hj hij e
  have h1 := h j hj
  unfold has at h1
  rw [List.any_eq_false] at h1
  exact h1 l[i] (List.mem_take_iff_getElem.2 ⟨i, by omega, rfl⟩) (by simp [e])
theorem check_parts {r : Room} (h : (check r).2.2 = 0) : (out 1 6 r.days = false ∧ out 0 6 r.opens = false ∧ ends r.lo r.hi 0 69 = 0) ∧ (failE setE 1 4 r.sets).2 = 0 ∧ (failE (ranE r.sets.length) 0 r.days r.ran).2 = 0 ∧ (failE (lookE r.ran.length) 0 4 r.looks).2 = 0 := by
  unfold check at h
  split at h
  · cases h
  · rename_i h1
    simp only [Bool.or_eq_true, decide_eq_true_eq, not_or, Bool.not_eq_true] at h1
    split at h
    · rename_i h2; exact absurd h h2
    · rename_i h2
      split at h
      · rename_i h3; exact absurd h h3
      · rename_i h3
        split at h
        · rename_i h4; exact absurd h h4
        · rename_i h4
          split at h
          · rename_i h5; exact absurd h h5
          · rename_i h5
            exact ⟨⟨h1.1.1, h1.2, by simpa using h2⟩, by simpa using h3, by simpa using h4, by simpa using h5⟩
theorem check_ok {r : Room} (h : (check r).2.2 = 0) : r.Ok := by
  obtain ⟨⟨h1, h2, h3⟩, h4, h5, h6⟩ := check_parts h
  have a1 := out_f.1 h1; have a2 := out_f.1 h2; have a3 := ends_z h3
  obtain ⟨b1, b2⟩ := failE_zero h4
  obtain ⟨c1, c2⟩ := failE_zero h5
  obtain ⟨d1, d2⟩ := failE_zero h6
  have hs : ∀ k (hk : k < r.sets.length), nmOk r.sets[k].name = true ∧ has ((r.sets.take k).map (·.name)) r.sets[k].name = false ∧ ends r.sets[k].lo r.sets[k].hi 0 15 = 0 := by
    intro k hk
    have := b2 k hk
    unfold setE at this
    split at this
    · cases this
    · rename_i e1
      split at this
      · cases this
      · rename_i e2
        exact ⟨by simpa using e1, by simpa using e2, this⟩
  refine ⟨a1, a3, a2, ⟨by omega, by omega⟩, fun s hs' => ?_, nodup_of fun k hk => ?_, by omega, fun z hz => ?_, by omega, fun x hx => ?_⟩
  · obtain ⟨k, hk, rfl⟩ := List.getElem_of_mem hs'
    have h7 := hs k hk
    exact ⟨h7.1, ends_z h7.2.2⟩
  · have h7 := (hs k (by simpa using hk)).2.1
    rw [List.getElem_map, ← List.map_take]; exact h7
  · obtain ⟨k, hk, rfl⟩ := List.getElem_of_mem hz
    have h7 := c2 k hk
    unfold ranE at h7
    split at h7
    · cases h7
    · rename_i e
      have := out_f.1 (by simpa using e); omega
  · obtain ⟨k, hk, rfl⟩ := List.getElem_of_mem hx
    have h7 := d2 k hk
    unfold lookE at h7
    split at h7
    · cases h7
    · rename_i e
      simp only [Bool.or_eq_true, not_or, Bool.not_eq_true] at e
      have e1 := out_f.1 e.1; have e2 := out_f.1 e.2
      omega
end Go.Rt.Ro
/- Plain facts of the room layer: points, day by day, and back. No conditions. -/
namespace Go.Rt.Ro
open Go.Rt.Ha (bit listL)
def baseS (r : Room) (but d : Nat) : Int × Int := match d with | 0 => (r.lo, r.hi) | d + 1 => plus (sp r but d) (gain r d)
theorem sp_base (r : Room) (but : Nat) : ∀ d, sp r but d = see r but d (baseS r but d)
  | 0 => rfl
  | _ + 1 => rfl
theorem set_at {r : Room} {i : Nat} (h : i < r.sets.length) : setAt r i = r.sets[i] := by simp [setAt, List.getD, h]
theorem zFn {r : Room} {i : Nat} (h : i < r.looks.length) : lookAt r i = r.looks[i] := by simp [lookAt, List.getD, h]
theorem ran_at {r : Room} {i : Nat} (h : i < r.ran.length) : r.ran.getD i 0 = r.ran[i] := by simp [List.getD, h]
theorem gain_at {r : Room} {d z : Nat} (hd : d < r.ran.length) (hz : r.ran[d] = (z : Int)) (h : z < r.sets.length) : gain r d = (r.sets[z].lo, r.sets[z].hi) := by
  unfold gain gainN; rw [ran_at hd, hz, Int.toNat_natCast, set_at h]
theorem zH0 {r : Room} (hr : r.Ok) (z : Int) : 0 ≤ (gainN r z).1 ∧ (gainN r z).1 ≤ (gainN r z).2 ∧ (gainN r z).2 ≤ 15 := by
  unfold gainN
  by_cases h : z.toNat < r.sets.length
  · rw [set_at h]
    have := hr.sets _ (List.getElem_mem h)
    exact ⟨this.2.1, this.2.2.1, this.2.2.2⟩
  · have : setAt r z.toNat = ⟨ByteArray.empty, 0,0⟩ := by unfold setAt; rw [List.getD, List.getElem?_eq_none (by omega)]; rfl
    rw [this]; exact ⟨by decide, by decide, by decide⟩
theorem gain_in {r : Room} (hr : r.Ok) (d : Nat) : 0 ≤ (gain r d).1 ∧ (gain r d).1 ≤ (gain r d).2 ∧ (gain r d).2 ≤ 15 := zH0 hr _
theorem see_y {r : Room} {but d i : Nat} {s : Int × Int} (hi : i < r.looks.length) (h1 : r.looks[i].1 = (d : Int)) (h2 : ((but >>> i &&& 1 : Nat) : Int) = 0) : seeTo r but d s (i + 1) = both (seeTo r but d s i) (ofC r.looks[i].2) := by
  rw [seeTo, seeAt, zFn hi, if_pos ⟨h1, by unfold bit; omega⟩]
theorem see_n1 {r : Room} {but d i : Nat} {s : Int × Int} (hi : i < r.looks.length) (h1 : ¬ r.looks[i].1 = (d : Int)) : seeTo r but d s (i + 1) = seeTo r but d s i := by
  rw [seeTo, seeAt, zFn hi, if_neg (fun x => h1 x.1)]
theorem see_n2 {r : Room} {but d i : Nat} {s : Int × Int} (hi : i < r.looks.length) (h2 : ¬ ((but >>> i &&& 1 : Nat) : Int) = 0) : seeTo r but d s (i + 1) = seeTo r but d s i := by
  rw [seeTo, seeAt, if_neg (fun x => h2 (by have := x.2; unfold bit at this; omega))]
theorem see_bd (r : Room) (but d : Nat) (s : Int × Int) : ∀ i, s.1 ≤ (seeTo r but d s i).1 ∧ (seeTo r but d s i).2 ≤ s.2
  | 0 => ⟨Int.le_refl _, Int.le_refl _⟩
  | i + 1 => by
    have ih := see_bd r but d s i
    rw [seeTo, seeAt]
    split
    · unfold both; dsimp only; omega
    · exact ih
theorem fwd_le {r : Room} {but : Nat} : ∀ {n d : Nat}, d < n → fwd r but n = true → (sp r but d).1 ≤ (sp r but d).2
  | n + 1, d, hd, h => by
    rw [fwd, Bool.and_eq_true, decide_eq_true_eq] at h
    by_cases e : d = n
    · subst e; exact h.2
    · exact fwd_le (by omega) h.1
theorem fwd_no {r : Room} {but d : Nat} (h : ¬ (sp r but d).1 ≤ (sp r but d).2) : ∀ n, d < n → fwd r but n = false
  | n + 1, hd => by
    rw [fwd]
    by_cases e : d = n
    · subst e; rw [decide_eq_false h, Bool.and_false]
    · rw [fwd_no h n (by omega)]; rfl
theorem fwd_step {r : Room} {but d : Nat} (h : fwd r but d = true) (h2 : (sp r but d).1 ≤ (sp r but d).2) : fwd r but (d + 1) = true := by rw [fwd, h, decide_eq_true h2]; rfl
theorem sp_bd {r : Room} (hr : r.Ok) {but : Nat} : ∀ d, fwd r but d = true → 0 ≤ (baseS r but d).1 ∧ (baseS r but d).1 ≤ 69 + 15 * d ∧ 0 ≤ (baseS r but d).2 ∧ (baseS r but d).2 ≤ 69 + 15 * d
  | 0, _ => by have := hr.start; show 0 ≤ r.lo ∧ r.lo ≤ _ ∧ 0 ≤ r.hi ∧ r.hi ≤ _; omega
  | d + 1, h => by
    have h1 := fwd_le (Nat.lt_succ_self d) h
    rw [fwd, Bool.and_eq_true] at h
    have ih := sp_bd hr d h.1
    have hs := see_bd r but d (baseS r but d) r.looks.length
    have hg := gain_in hr d
    have e := sp_base r but d
    unfold see at e
    rw [← e] at hs
    show 0 ≤ (sp r but d).1 + (gain r d).1 ∧ (sp r but d).1 + (gain r d).1 ≤ _ ∧ 0 ≤ (sp r but d).2 + (gain r d).2 ∧ (sp r but d).2 + (gain r d).2 ≤ _
    have hc : ((d + 1 : Nat) : Int) = (d : Int) + 1 := rfl
    omega
theorem sp_in {r : Room} (hr : r.Ok) {but d : Nat} (h : fwd r but (d + 1) = true) : 0 ≤ (sp r but d).1 ∧ (sp r but d).1 ≤ (sp r but d).2 ∧ (sp r but d).2 ≤ 69 + 15 * d := by
  have h1 := fwd_le (Nat.lt_succ_self d) h
  rw [fwd, Bool.and_eq_true] at h
  have ih := sp_bd hr d h.1
  have hs := see_bd r but d (baseS r but d) r.looks.length
  have e := sp_base r but d
  unfold see at e
  rw [← e] at hs
  omega
theorem put2_len (P : List Int) (d : Nat) (s : Int × Int) : (put2 P d s).length = P.length := by simp [put2]
theorem put2_at {P : List Int} {d : Nat} {s : Int × Int} (h : 2 * d + 1 < P.length) : at2 (put2 P d s) d = s := by
  unfold at2 put2
  have h1 : ((P.set (2 * d) s.1).set (2 * d + 1) s.2).getD (2 * d) 0 = s.1 := by
    rw [List.getD, List.getElem?_set_ne (by omega), List.getElem?_set_self (by omega)]; rfl
  have h2 : ((P.set (2 * d) s.1).set (2 * d + 1) s.2).getD (2 * d + 1) 0 = s.2 := by
    rw [List.getD, List.getElem?_set_self (by simp; omega)]; rfl
  rw [h1, h2]
theorem zG9 {P : List Int} {d e : Nat} {s : Int × Int} (h : e ≠ d) : at2 (put2 P d s) e = at2 P e := by
  unfold at2 put2
  simp only [List.getD]
  rw [List.getElem?_set_ne (by omega), List.getElem?_set_ne (by omega), List.getElem?_set_ne (by omega), List.getElem?_set_ne (by omega)]
theorem at2_ext {P Q : List Int} (hP : P.length = 14) (hQ : Q.length = 14) (h : ∀ d, d < 7 → at2 P d = at2 Q d) : P = Q := by
  apply List.ext_getElem (by omega)
  intro i h1 h2
  have h3 := h (i / 2) (by omega)
  unfold at2 at h3
  rw [Prod.mk.injEq] at h3
  have e1 : P[i] = P.getD i 0 := by simp [List.getD, h1]
  have e2 : Q[i] = Q.getD i 0 := by simp [List.getD, h2]
  rw [e1, e2]
  by_cases hp : i % 2 = 0
  · have : i = 2 * (i / 2) := by omega
    rw [this]; exact h3.1
  · have : i = 2 * (i / 2) + 1 := by omega
    rw [this]; exact h3.2
theorem zGm {P : List Int} (hP : P.length = 14) {d : Nat} (hd : d < 7) : put2 P d (at2 P d) = P := by
  refine at2_ext (by rw [put2_len]; exact hP) hP fun e he => ?_
  by_cases x : e = d
  · subst x; exact put2_at (by omega)
  · exact zG9 x
theorem zDv (r : Room) (but : Nat) : ∀ d, (fwdP r but d).length = 14
  | 0 => rfl
  | d + 1 => by rw [fwdP, put2_len]; exact zDv r but d
theorem fwdP_at (r : Room) (but : Nat) : ∀ {n d : Nat}, n ≤ 7 → d < n → at2 (fwdP r but n) d = sp r but d
  | n + 1, d, hn, hd => by
    rw [fwdP]
    by_cases e : d = n
    · subst e; exact put2_at (by rw [zDv]; omega)
    · rw [zG9 e]; exact fwdP_at r but (by omega) (by omega)
theorem zE1 (r : Room) {P : List Int} (h : P.length = 14) : ∀ d, (backTo r P d).length = 14
  | 0 => h
  | d + 1 => by rw [backTo, put2_len]; exact zE1 r h d
theorem zDo (r : Room) {P : List Int} (h : P.length = 14) : ∀ k, (backN r P k).length = 14
  | 0 => h
  | k + 1 => zE1 r (zDo r h k) _
theorem zE2 (r : Room) (P : List Int) : ∀ {d e : Nat}, d ≤ e → at2 (backTo r P d) e = at2 P e
  | 0, e, _ => rfl
  | d + 1, e, h => by rw [backTo, zG9 (by omega)]; exact zE2 r P (by omega)
theorem backTo_lo (r : Room) {P : List Int} (hP : P.length = 14) : ∀ {d e : Nat}, d ≤ 6 → e < d → at2 (backTo r P d) e = both (at2 P e) ((at2 P (e + 1)).1 - (gain r e).2, (at2 P (e + 1)).2 - (gain r e).1)
  | d + 1, e, h6, h => by
    rw [backTo]
    by_cases x : e = d
    · subst x
      rw [put2_at (by rw [zE1 r hP]; omega), zE2 r P (Nat.le_refl _)]
      unfold backS
      rw [zE2 r P (Nat.le_succ _)]
    · rw [zG9 x]; exact backTo_lo r hP (by omega) (by omega)
theorem backN_last (r : Room) (P : List Int) : ∀ k, at2 (backN r P k) r.ran.length = at2 P r.ran.length
  | 0 => rfl
  | k + 1 => by rw [backN, back, zE2 r _ (Nat.le_refl _)]; exact backN_last r P k
theorem both_again (x b : Int × Int) : both (both x b) b = both x b := by unfold both; dsimp only; congr 1 <;> omega
theorem back_still {r : Room} (hr : r.ran.length ≤ 6) {P : List Int} (hP : P.length = 14) : ∀ (k d : Nat), r.ran.length ≤ d + k → at2 (backN r P (k + 1)) d = at2 (backN r P k) d
  | 0, d, h => by
    show at2 (backTo r P r.ran.length) d = at2 P d
    exact zE2 r _ (by omega)
  | k + 1, d, h => by
    by_cases hd : r.ran.length ≤ d
    · rw [backN, back, zE2 r _ hd]
    · have e1 : at2 (backN r P (k + 1 + 1)) d = both (at2 (backN r P (k + 1)) d) ((at2 (backN r P (k + 1)) (d + 1)).1 - (gain r d).2, (at2 (backN r P (k + 1)) (d + 1)).2 - (gain r d).1) := by
        rw [backN, back, backTo_lo r (zDo r hP _) (by omega) (by omega)]
      have e2 : at2 (backN r P (k + 1)) d = both (at2 (backN r P k) d) ((at2 (backN r P k) (d + 1)).1 - (gain r d).2, (at2 (backN r P k) (d + 1)).2 - (gain r d).1) := by
        rw [backN, back, backTo_lo r (zDo r hP _) (by omega) (by omega)]
      have e3 := back_still hr hP k (d + 1) (by omega)
      rw [e1, e3, e2, both_again]
theorem back_end {r : Room} (hr : r.ran.length ≤ 6) {P : List Int} (hP : P.length = 14) : ∀ k, r.ran.length ≤ k → backN r P (k + 1) = backN r P k := by
  intro k hk
  exact at2_ext (zDo r hP _) (zDo r hP _) fun d _ => back_still hr hP k d (by omega)
theorem back_fix {r : Room} {P : List Int} {j : Nat} (h : backN r P j = backN r P (j + 1)) : ∀ m, backN r P (j + m) = backN r P j
  | 0 => rfl
  | m + 1 => by
    show back r (backN r P (j + m)) = _
    rw [back_fix h m]
    exact h.symm
theorem pts_end {r : Room} (hr : r.ran.length ≤ 6) {but k : Nat} {was : List Int} (hk : k ≤ r.ran.length + 1) (hw : k = 0 ∧ was = zeros ∨ ∃ j, k = j + 1 ∧ was = backN r (pts0 r but) j ∧ ¬ zeros = pts0 r but) (h : was = backN r (pts0 r but) k) : backN r (pts0 r but) k = pts r but := by
  have hP := zDv r but (r.ran.length + 1)
  rcases hw with ⟨rfl, rfl⟩ | ⟨j, rfl, rfl, hz⟩
  · unfold pts
    rw [if_pos (show pts0 r but = zeros from h.symm)]; exact h.symm
  · unfold pts
    rw [if_neg (fun x => hz x.symm), ← h]
    have h2 := back_fix h (r.ran.length - j)
    rw [show j + (r.ran.length - j) = r.ran.length by omega] at h2
    exact h2.symm
theorem pts_go {r : Room} (hr : r.ran.length ≤ 6) {but k : Nat} {was : List Int} (hk : k ≤ r.ran.length + 1) (hw : k = 0 ∧ was = zeros ∨ ∃ j, k = j + 1 ∧ was = backN r (pts0 r but) j ∧ ¬ zeros = pts0 r but) (h : ¬ was = backN r (pts0 r but) k) : k ≤ r.ran.length ∧ ¬ zeros = pts0 r but := by
  rcases hw with ⟨rfl, rfl⟩ | ⟨j, rfl, rfl, hz⟩
  · exact ⟨by omega, h⟩
  · refine ⟨?_, hz⟩
    apply Classical.byContradiction
    intro hc
    exact h (back_end hr (zDv r but (r.ran.length + 1)) j (by omega)).symm
theorem zHa {r : Room} (but : Nat) : (pts r but).length = 14 := by
  unfold pts
  split
  · rfl
  · exact zDo r (zDv _ _ _) _
theorem pts_today {r : Room} (hr : r.ran.length ≤ 6) (but : Nat) : at2 (pts r but) r.ran.length = sp r but r.ran.length := by
  have h0 : at2 (pts0 r but) r.ran.length = sp r but r.ran.length := fwdP_at r but (by omega) (by omega)
  unfold pts
  split
  · rename_i h; rw [← h]; exact h0
  · rw [backN_last]; exact h0
def Bk (K : Int) (P : List Int) : Prop := ∀ d, 0 ≤ (at2 P d).1 ∧ (at2 P d).1 ≤ 1000 ∧ -K ≤ (at2 P d).2 ∧ (at2 P d).2 ≤ 1000
theorem bk_put {r : Room} (hr : r.Ok) {K : Int} (hK : 0 ≤ K) {P : List Int} (hP : P.length = 14) (h : Bk K P) (d : Nat) (hd : d < 7) : Bk (K + 15) (put2 P d (both (at2 P d) (backS r P d))) := by
  intro e
  have h1 := h e; have h2 := h d; have h3 := h (d + 1); have hg := gain_in hr d
  by_cases x : e = d
  · subst x
    rw [put2_at (by omega)]
    unfold both backS; dsimp only; omega
  · rw [zG9 x]; omega
theorem backTo_bk {r : Room} (hr : r.Ok) {K : Int} (hK : 0 ≤ K) {P : List Int} (hP : P.length = 14) (h : Bk K P) : ∀ d : Nat, d ≤ 6 → Bk (K + 15 * d) (backTo r P d)
  | 0, _ => by intro d; have h1 := h d; show 0 ≤ (at2 P d).1 ∧ (at2 P d).1 ≤ 1000 ∧ -(K + 15 * ((0 : Nat) : Int)) ≤ (at2 P d).2 ∧ (at2 P d).2 ≤ 1000; omega
  | d + 1, hd => by
    have := bk_put hr (by omega) (zE1 r hP d) (backTo_bk hr hK hP h d (by omega)) d (by omega)
    rw [backTo]
    have e : K + 15 * ((d + 1 : Nat) : Int) = K + 15 * d + 15 := by omega
    rw [e]; exact this
theorem backN_bk {r : Room} (hr : r.Ok) {P : List Int} (hP : P.length = 14) (h : Bk 0 P) : ∀ k : Nat, Bk (90 * k) (backN r P k)
  | 0 => by intro d; have h1 := h d; show 0 ≤ (at2 P d).1 ∧ (at2 P d).1 ≤ 1000 ∧ -(90 * ((0 : Nat) : Int)) ≤ (at2 P d).2 ∧ (at2 P d).2 ≤ 1000; omega
  | k + 1 => by
    have hl : r.ran.length ≤ 6 := by have := hr.lr; have := hr.days; omega
    have h1 := backTo_bk hr (by omega) (zDo r hP k) (backN_bk hr hP h k) r.ran.length hl
    intro d
    have h2 := h1 d
    rw [backN, back]
    omega
theorem zeros_bk : Bk 0 zeros := by
  intro d
  have h : ∀ i, zeros.getD i 0 = 0 := by
    intro i; unfold zeros; rw [List.getD, List.getElem?_replicate]; split <;> rfl
  unfold at2
  rw [h, h]; decide
theorem fwdP_bk {r : Room} (hr : r.Ok) {but : Nat} : ∀ d, d ≤ 7 → fwd r but d = true → Bk 0 (fwdP r but d)
  | 0, _, _ => zeros_bk
  | d + 1, hd, h => by
    have h1 := sp_in hr h
    rw [fwd, Bool.and_eq_true] at h
    have ih := fwdP_bk hr d (by omega) h.1
    intro e
    rw [fwdP]
    by_cases x : e = d
    · subst x
      rw [put2_at (by rw [zDv]; omega)]; omega
    · rw [zG9 x]; exact ih e
theorem back_bk {r : Room} (hr : r.Ok) {but : Nat} (hf : lookB r but = true) {k e : Nat} (hk : k ≤ r.ran.length + 1) (he : e ≤ 6) : Bk 2000 (backTo r (backN r (pts0 r but) k) e) := by
  have hl : r.ran.length ≤ 6 := by have := hr.lr; have := hr.days; omega
  have h0 : Bk 0 (pts0 r but) := fwdP_bk hr _ (by omega) hf
  have h1 := backTo_bk hr (by omega) (zDo r (show (pts0 r but).length = 14 from zDv _ _ _) k) (backN_bk hr (zDv _ _ _) h0 k) e he
  intro d
  have := h1 d
  omega
end Go.Rt.Ro
/- Plain facts of the room layer: what bunches become, what ways give, plans. No conditions. -/
namespace Go.Rt.Ro
open Go.Rt.Ha (bit listL)
theorem gainN_at {r : Room} {z : Int} {z0 : Nat} (hz : z = (z0 : Int)) (h : z0 < r.sets.length) : gainN r z = (r.sets[z0].lo, r.sets[z0].hi) := by
  unfold gainN; rw [hz, Int.toNat_natCast, set_at h]
theorem today_in {r : Room} (hr : r.Ok) (hlb : lookB r 0 = true) : 0 ≤ (today r).1 ∧ (today r).1 ≤ (today r).2 ∧ (today r).2 ≤ 159 := by
  have hl : r.ran.length ≤ 6 := by have := hr.lr; have := hr.days; omega
  unfold today
  rw [pts_today hl]
  have h := sp_in hr (d := r.ran.length) hlb
  omega
theorem goTo_bd {r : Room} (hr : r.Ok) {s : Int × Int} (hs : 0 ≤ s.1 ∧ s.1 ≤ 159 ∧ 0 ≤ s.2 ∧ s.2 ≤ 159) (l : List Int) : ∀ i, 0 ≤ (goTo r s l i).1 ∧ (goTo r s l i).1 ≤ 159 + 15 * i ∧ 0 ≤ (goTo r s l i).2 ∧ (goTo r s l i).2 ≤ 159 + 15 * i
  | 0 => by show 0 ≤ s.1 ∧ s.1 ≤ _ ∧ 0 ≤ s.2 ∧ s.2 ≤ _; omega
  | i + 1 => by
    have ih := goTo_bd hr hs l i
    have hg := zH0 hr (l.getD i 0)
    rw [goTo]; unfold plus; dsimp only
    have hc : ((i + 1 : Nat) : Int) = (i : Int) + 1 := rfl
    omega
structure Wok (w : List Int) : Prop where
  len : w.length = 4
  nn : ∀ i, 0 ≤ w.getD i 0 ∧ w.getD i 0 ≤ 20
theorem sum_bd {r : Room} (hr : r.Ok) {w : List Int} (hw : Wok w) : ∀ i, 0 ≤ (sumTo r w i).1 ∧ (sumTo r w i).1 ≤ 300 * i ∧ 0 ≤ (sumTo r w i).2 ∧ (sumTo r w i).2 ≤ 300 * i
  | 0 => by simp [sumTo]
  | i + 1 => by
    have ih := sum_bd hr hw i
    have hn := hw.nn i
    have hs : 0 ≤ (setAt r i).lo ∧ (setAt r i).lo ≤ 15 ∧ 0 ≤ (setAt r i).hi ∧ (setAt r i).hi ≤ 15 := by
      by_cases h : i < r.sets.length
      · rw [set_at h]; have := hr.sets _ (List.getElem_mem h); omega
      · have : setAt r i = ⟨ByteArray.empty, 0,0⟩ := by unfold setAt; rw [List.getD, List.getElem?_eq_none (by omega)]; rfl
        rw [this]; decide
    have m : ∀ a b : Int, 0 ≤ a → a ≤ 20 → 0 ≤ b → b ≤ 15 → 0 ≤ a * b ∧ a * b ≤ 300 := by
      intro a b h1 h2 h3 h4
      refine ⟨Int.mul_nonneg h1 h3, ?_⟩
      have := Int.mul_le_mul h2 h4 h3 (by omega)
      omega
    have m1 := m _ _ hn.1 hn.2 hs.1 hs.2.1
    have m2 := m _ _ hn.1 hn.2 hs.2.2.1 hs.2.2.2
    rw [sumTo]; unfold plus; dsimp only
    have hc : ((i + 1 : Nat) : Int) = (i : Int) + 1 := rfl
    omega
theorem mul_in {a b : Int} (h : 0 ≤ a ∧ a ≤ 20) (h2 : 0 ≤ b ∧ b ≤ 15) : 0 ≤ a * b ∧ a * b ≤ 300 := by
  refine ⟨Int.mul_nonneg h.1 h2.1, ?_⟩
  have := Int.mul_le_mul h.2 h2.2 h2.1 (by omega)
  omega
structure Pok (r : Room) (p : Plan) : Prop where
  wl : p.ways.length = 4
  inn : ∀ z ∈ p.l, 0 ≤ z ∧ z < r.sets.length
  cnt : ∀ i, p.ways.getD i 0 = ((p.l.count (i : Int) : Nat) : Int)
  ch : 0 ≤ p.ch ∧ p.ch ≤ p.l.length
theorem pok_no (r : Room) : Pok r noPlan := ⟨rfl, by simp [noPlan], fun i => by
  have h : ∀ j, ([0,0,0,0] : List Int).getD j 0 = 0 := by
    intro j; match j with | 0 => rfl | 1 => rfl | 2 => rfl | 3 => rfl | n + 4 => rfl
  show ([0,0,0,0] : List Int).getD i 0 = _
  rw [h]; rfl, by decide⟩
theorem pok_more {r : Room} {p : Plan} (h : Pok r p) (before : Int) {n : Nat} (hn : n < r.sets.length) (h4 : r.sets.length ≤ 4) : Pok r (p.more before n) := by
  refine ⟨by simp [Plan.more, h.wl], fun z hz => ?_, fun i => ?_, ?_⟩
  · simp only [Plan.more, List.mem_append, List.mem_singleton] at hz
    rcases hz with hz | rfl
    · exact h.inn z hz
    · omega
  · show (p.ways.set n (p.ways.getD n 0 + 1)).getD i 0 = (((p.l ++ [(n : Int)]).count (i : Int) : Nat) : Int)
    rw [List.count_append]
    by_cases e : n = i
    · subst e
      rw [List.getD, List.getElem?_set_self (by rw [h.wl]; omega)]
      have := h.cnt n
      simp only [List.getD] at this
      simp [this]
    · rw [List.getD, List.getElem?_set_ne e, ← List.getD, h.cnt i, List.count_singleton, if_neg (by simp; omega)]; rfl
  · have := h.ch
    simp only [Plan.more, List.length_append, List.length_singleton]
    split <;> omega
theorem pok_ways {r : Room} {p : Plan} (h : Pok r p) (hl : p.l.length ≤ 6) : Wok p.ways := ⟨h.wl, fun i => by
  rw [h.cnt i]
  have := List.count_le_length (a := (i : Int)) (l := p.l)
  omega⟩
theorem go_sum {r : Room} (s : Int × Int) : ∀ (l : List Int), (∀ z ∈ l, 0 ≤ z ∧ z < r.sets.length) → ∀ w : List Int, (∀ i, w.getD i 0 = ((l.count (i : Int) : Nat) : Int)) → goTo r s l l.length = plus s (sum r w) := by
  have key : ∀ (l : List Int) (i : Nat), i ≤ l.length → ∀ t : Int × Int, goTo r t l i = plus t (goTo r (0,0) l i) := by
    intro l i
    induction i with
    | zero => intro _ t; simp [goTo, plus]
    | succ i ih => intro hi t; rw [goTo, goTo, ih (by omega) t]; simp only [plus]; congr 1 <;> omega
  have tk : ∀ (l m : List Int) (i : Nat) (t : Int × Int), i ≤ l.length → goTo r t (l ++ m) i = goTo r t l i := by
    intro l m i
    induction i with
    | zero => intro t _; rfl
    | succ i ih =>
      intro t hi
      rw [goTo, goTo, ih t (by omega)]
      simp only [List.getD]
      rw [List.getElem?_append_left (by omega)]
  -- by the settings
  have sum1 : ∀ (w w' : List Int) (n k : Nat), (∀ i, w'.getD i 0 = w.getD i 0 + if i = n then 1 else 0) → sumTo r w' k = plus (sumTo r w k) (if n < k then ((setAt r n).lo, (setAt r n).hi) else (0,0)) := by
    intro w w' n k h
    induction k with
    | zero => simp [sumTo, plus]
    | succ k ih =>
      rw [sumTo, sumTo, ih, h k]
      by_cases e : k = n
      · subst e
        simp only [if_true, if_pos (Nat.lt_succ_self k), if_neg (Nat.lt_irrefl k), plus, Int.add_mul, Int.one_mul]
        congr 1 <;> omega
      · by_cases e2 : n < k
        · simp only [if_neg e, if_pos e2, if_pos (Nat.lt_succ_of_lt e2), plus, Int.add_zero]
          congr 1 <;> omega
        · simp only [if_neg e, if_neg e2, if_neg (show ¬ n < k + 1 by omega), plus, Int.add_zero]
  have zero : ∀ k (w : List Int), (∀ i, w.getD i 0 = 0) → sumTo r w k = (0,0) := by
    intro k w h
    induction k with
    | zero => rfl
    | succ k ih => rw [sumTo, ih, h k]; simp [plus]
  have main : ∀ (n : Nat) (l : List Int), l.length = n → (∀ z ∈ l, 0 ≤ z ∧ z < r.sets.length) → ∀ w : List Int, (∀ i, w.getD i 0 = ((l.count (i : Int) : Nat) : Int)) → goTo r (0,0) l l.length = sum r w := by
    intro n
    induction n with
    | zero =>
      intro l hl _ w hw
      have : l = [] := List.eq_nil_of_length_eq_zero hl
      subst this
      exact (zero _ _ (fun i => by rw [hw i]; rfl)).symm
    | succ n ih =>
      intro l hl hin w hw
      have hne : l ≠ [] := by rintro rfl; simp at hl
      obtain ⟨m, z, rfl⟩ : ∃ m z, l = m ++ [z] := ⟨l.dropLast, l.getLast hne, (List.dropLast_concat_getLast hne).symm⟩
      have hz := hin z (by simp)
      obtain ⟨z0, rfl⟩ : ∃ z0 : Nat, z = (z0 : Int) := ⟨z.toNat, by omega⟩
      have hm : m.length = n := by simpa using hl
      let w0 : List Int := (List.range r.sets.length).map fun i : Nat => ((m.count (i : Int) : Nat) : Int)
      have hw0 : ∀ i, w0.getD i 0 = ((m.count (i : Int) : Nat) : Int) := by
        intro i
        by_cases h : i < r.sets.length
        · simp [w0, List.getD, h]
        · have e : m.count (i : Int) = 0 := List.count_eq_zero.2 fun h2 => by have := (hin (i : Int) (by simp [h2])).2; omega
          simp [w0, List.getD, h, e]
      have h1 := ih m hm (fun z hz => hin z (by simp [hz])) w0 hw0
      rw [List.length_append, List.length_singleton, goTo, tk m _ _ _ (Nat.le_refl _), h1]
      unfold sum
      rw [sum1 w0 w z0 r.sets.length (fun i => by
        rw [hw i, hw0 i, List.count_append, List.count_singleton]
        by_cases e : i = z0
        · subst e; simp
        · rw [if_neg e, if_neg (by simp; omega)]; simp), if_pos (by omega)]
      have e : (m ++ [(z0 : Int)]).getD m.length 0 = (z0 : Int) := by simp [List.getD]
      rw [e, gainN_at rfl (by omega), set_at (by omega)]
  intro l hin w hw
  rw [key l l.length (Nat.le_refl _) s, main l.length l rfl hin w hw]
def plansN (sets : Nat) (changes : Int) (k : Nat) (before : Int) (q : Plan) (n : Nat) : List Plan :=
  ((List.range sets).drop n).flatMap fun n : Nat => if 0 ≤ before ∧ (n : Int) ≠ before ∧ q.ch = changes then [] else plansF sets changes k (n : Int) (q.more before n)
theorem plans_zero {sets : Nat} {changes before : Int} {k : Nat} {q : Plan} : plansF sets changes (k + 1) before q = plansN sets changes k before q 0 := rfl
theorem plans_next {sets : Nat} {changes before : Int} {k n : Nat} {q : Plan} (h : n < sets) : plansN sets changes k before q n = (if 0 ≤ before ∧ (n : Int) ≠ before ∧ q.ch = changes then [] else plansF sets changes k (n : Int) (q.more before n)) ++ plansN sets changes k before q (n + 1) := by
  unfold plansN
  rw [List.drop_eq_getElem_cons (by simpa using h), List.flatMap_cons]
  simp
theorem zFr {sets : Nat} {changes before : Int} {k n : Nat} {q : Plan} (h : sets ≤ n) : plansN sets changes k before q n = [] := by
  unfold plansN; rw [List.drop_eq_nil_of_le (by simpa using h)]; rfl
theorem zGn {r : Room} (h4 : r.sets.length ≤ 4) (changes : Int) : ∀ (k : Nat) (before : Int) (q : Plan), Pok r q → ∀ x ∈ plansF r.sets.length changes k before q, Pok r x ∧ x.l.length = q.l.length + k
  | 0, before, q, hq, x, hx => by
    unfold plansF at hx
    split at hx
    · rw [List.mem_singleton] at hx; subst hx; exact ⟨hq, rfl⟩
    · simp at hx
  | k + 1, before, q, hq, x, hx => by
    unfold plansF at hx
    rw [List.mem_flatMap] at hx
    obtain ⟨n, hn, hx⟩ := hx
    rw [List.mem_range] at hn
    split at hx
    · simp at hx
    · have h := zGn h4 changes k n (q.more before n) (pok_more hq before hn h4) x hx
      refine ⟨h.1, ?_⟩
      rw [h.2]
      simp [Plan.more]; omega
theorem first_none {r : Room} {now : Int × Int} {before want : Int} {many c : Nat} (h1 : firstN r now before many want c = none) (h2 : (plansF r.sets.length (c : Int) many before noPlan).find? (gives r now want) = none) : firstN r now before many want (c + 1) = none := by
  rw [firstN, h1]; exact h2
theorem first_some {r : Room} {now : Int × Int} {before want : Int} {many c : Nat} {q : Plan} (h1 : firstN r now before many want c = none) (h2 : (plansF r.sets.length (c : Int) many before noPlan).find? (gives r now want) = some q) : ∀ n, c < n → firstN r now before many want n = some q
  | n + 1, h => by
    rw [firstN]
    by_cases e : n = c
    · subst e; rw [h1]; exact h2
    · rw [first_some h1 h2 n (by omega)]
theorem find_step {α : Type} {p : α → Bool} {l : List α} {i : Nat} (hi : i < l.length) (h : (l.take i).find? p = none) (h2 : p l[i] = false) : (l.take (i + 1)).find? p = none := by
  rw [List.take_succ_eq_append_getElem hi, List.find?_append, h]; simp [h2]
theorem find_hit {α : Type} {p : α → Bool} {l : List α} {i : Nat} (hi : i < l.length) (h : (l.take i).find? p = none) (h2 : p l[i] = true) : l.find? p = some l[i] := by
  have h3 : (l.take i ++ l.drop i).find? p = some l[i] := by
    have h4 : (l.drop i).find? p = some l[i] := by rw [List.drop_eq_getElem_cons hi, List.find?_cons, h2]
    rw [List.find?_append, h, h4]; rfl
  rwa [List.take_append_drop] at h3
theorem first_pok {r : Room} (h4 : r.sets.length ≤ 4) {now : Int × Int} {before want : Int} {many : Nat} {q : Plan} : ∀ c, firstN r now before many want c = some q → Pok r q ∧ q.l.length = many ∧ gives r now want q = true
  | 0, h => by simp [firstN] at h
  | c + 1, h => by
    rw [firstN] at h
    split at h
    · rename_i p hp
      injection h with h; subst h
      exact first_pok h4 c hp
    · have h1 := zGn h4 (c : Int) many before noPlan (pok_no r) q (List.mem_of_find?_eq_some h)
      have h2 := List.find?_some h
      exact ⟨h1.1, by rw [h1.2]; simp [noPlan], h2⟩
end Go.Rt.Ro
/- Plain words of the room layer: the days on which a bareR room gives a colour; the fewest looks that must be wrong. No conditions. -/
namespace Go.Rt.Ro
open Go.Rt.Ha (bit listL)
def bareR (r : Room) : Room := { r with ran := [], looks := [] }
def bareP (p : AtR) : AtR := { p with ar := none, cr := 0, al := none, cl := 0 }
theorem bare_ok {r : Room} (h : r.Ok) : (bareR r).Ok :=
  ⟨h.days, h.start, h.opens, h.ls, h.sets, h.nd, by have := h.days; show ((0 : Nat) : Int) ≤ r.days; omega, by intro z hz; simp [bareR] at hz, by simp [bareR], by intro x hx; simp [bareR] at hx⟩
theorem bare_look {r : Room} (h : r.Ok) : lookB (bareR r) 0 = true := by
  have hs := h.start
  show (true && decide (r.lo ≤ r.hi)) = true
  simp; omega
def fillB (r : Room) (day want : Int) : Nat → List Int
  | 0 => []
  | d + 1 => if (first (bareR r) (r.lo, r.hi) (-1) (day - d).toNat want).isSome then fillB r day want d ++ [(d : Int)] else fillB r day want d
theorem fillB_le (r : Room) (day want : Int) : ∀ n, (fillB r day want n).length ≤ n
  | 0 => Nat.le_refl _
  | n + 1 => by have := fillB_le r day want n; unfold fillB; split <;> simp <;> omega
theorem fill_y {r : Room} {day : Int} {want : Int} {i m : Nat} {q : Plan} (hm : day - i = (m : Int)) (h : first (bareR r) (r.lo, r.hi) (-1) m want = some q) : fillB r day want (i + 1) = fillB r day want i ++ [(i : Int)] := by
  have : (day - (i : Int)).toNat = m := by omega
  rw [fillB, this, h]; rfl
theorem fill_n {r : Room} {day : Int} {want : Int} {i m : Nat} (hm : day - i = (m : Int)) (h : first (bareR r) (r.lo, r.hi) (-1) m want = none) : fillB r day want (i + 1) = fillB r day want i := by
  have : (day - (i : Int)).toNat = m := by omega
  rw [fillB, this, h]; rfl
def wrongSt (r : Room) (q : List Int × Bool) (s : Nat) : List Int × Bool :=
  if (q.2 && (decide (q.1.length < (listL s r.looks.length).length) || (decide ((listL s r.looks.length).length = q.1.length) && Go.Rt.less q.1 (listL s r.looks.length)))) = true then q else if lookB r s = true then (listL s r.looks.length, true) else q
def wrongTo (r : Room) : Nat → List Int × Bool
  | 0 => ([], false)
  | s + 1 => wrongSt r (wrongTo r s) s
def wrong (r : Room) : List Int := (wrongTo r (2 ^ r.looks.length)).1
theorem shl_16 {n : Nat} (h : n ≤ 4) : 1 <<< n = 2 ^ n ∧ 1 <<< n ≤ 16 := by
  have h2 : 2 ^ n ≤ 2 ^ 4 := Nat.pow_le_pow_right (by omega) h
  rw [Nat.shiftLeft_eq, Nat.one_mul]
  exact ⟨rfl, h2⟩
theorem wr_1 {r : Room} {s : Nat} {wl : List Int} (hw : wrongTo r s = (wl, true)) (h : wl.length < (listL s r.looks.length).length) : wrongTo r (s + 1) = (wl, true) := by
  rw [wrongTo, wrongSt, hw, if_pos]; simp [h]
theorem wr_2 {r : Room} {s : Nat} {wl : List Int} (hw : wrongTo r s = (wl, true)) (h : (listL s r.looks.length).length = wl.length) (h2 : Go.Rt.less wl (listL s r.looks.length) = true) : wrongTo r (s + 1) = (wl, true) := by
  rw [wrongTo, wrongSt, hw, if_pos]; simp [h, h2]
theorem wr_y {r : Room} {s : Nat} {wl : List Int} {wb : Bool} (hw : wrongTo r s = (wl, wb)) (hc : (wb && (decide (wl.length < (listL s r.looks.length).length) || (decide ((listL s r.looks.length).length = wl.length) && Go.Rt.less wl (listL s r.looks.length)))) = false) (ht : lookB r s = true) : wrongTo r (s + 1) = (listL s r.looks.length, true) := by
  rw [wrongTo, wrongSt, hw, if_neg (by rw [hc]; simp), if_pos ht]
theorem wr_n {r : Room} {s : Nat} {wl : List Int} {wb : Bool} (hw : wrongTo r s = (wl, wb)) (hc : (wb && (decide (wl.length < (listL s r.looks.length).length) || (decide ((listL s r.looks.length).length = wl.length) && Go.Rt.less wl (listL s r.looks.length)))) = false) (ht : lookB r s = false) : wrongTo r (s + 1) = (wl, wb) := by
  rw [wrongTo, wrongSt, hw, if_neg (by rw [hc]; simp), if_neg (by rw [ht]; simp)]
theorem wrong_at {r : Room} {wl : List Int} {wb : Bool} {s : Nat} (hs : s = 1 <<< r.looks.length) (hw : wrongTo r s = (wl, wb)) : wrong r = wl := by
  unfold wrong; rw [← Nat.one_mul (2 ^ _), ← Nat.shiftLeft_eq, ← hs, hw]
end Go.Rt.Ro
/- Plain words of the shop layer: markets, their errors. No conditions. -/
namespace Go.Rt.Sh
structure Room where
  name : ByteArray
  lo : Int
  hi : Int
  fro : Int
  las : Int
structure Shop where
  name : ByteArray
  day : Int
  want : Int
structure Train where
  room : Int
  shop : Int
  days : Int
  cap : Int
structure Market where
  rooms : List Room
  shops : List Shop
  trains : List Train
def Room.cells (r : Room) : List Value := [.string r.name, .int .i64 r.lo, .int .i64 r.hi, .int .i64 r.fro, .int .i64 r.las]
def Shop.cells (s : Shop) : List Value := [.string s.name, .int .i64 s.day, .int .i64 s.want]
def Train.cells (t : Train) : List Value := [.int .i64 t.room, .int .i64 t.shop, .int .i64 t.days, .int .i64 t.cap]
structure At3 where
  ar : Option Addr
  cr : Nat
  az : Option Addr
  cs : Nat
  at_ : Option Addr
  ct : Nat
def Market.cells (m : Market) (p : At3) : List Value := [.slice p.ar m.rooms.length p.cr, .slice p.az m.shops.length p.cs, .slice p.at_ m.trains.length p.ct]
def rrows (l : List Room) : List (List Value) := l.map Room.cells
def srows (l : List Shop) : List (List Value) := l.map Shop.cells
def trows (l : List Train) : List (List Value) := l.map Train.cells
def strs (l : List ByteArray) : List Value := l.map Value.string
def firstE {α : Type} (err : List α → α → Int) : List α → Int → List α → Int × Int
  | _,_, [] => (0,0)
  | b, i, x :: l => if err b x = 0 then firstE err (b ++ [x]) (i + 1) l else (i, err b x)
theorem zDj {α : Type} {err : List α → α → Int} {l : List α} {i : Nat} (hi : i < l.length) (h : err (l.take i) l[i] = 0) : firstE err (l.take i) i (l.drop i) = firstE err (l.take (i + 1)) (i + 1 : Nat) (l.drop (i + 1)) := by
  rw [List.drop_eq_getElem_cons hi]
  simp only [firstE, h, if_true]
  rw [List.take_succ_eq_append_getElem hi]; rfl
theorem zAp {α : Type} {err : List α → α → Int} {l : List α} {i : Nat} (hi : i < l.length) (h : err (l.take i) l[i] ≠ 0) : firstE err (l.take i) i (l.drop i) = ((i : Int), err (l.take i) l[i]) := by
  rw [List.drop_eq_getElem_cons hi]
  simp only [firstE, if_neg h]
theorem zB4 {α : Type} {err : List α → α → Int} {l : List α} {i : Nat} (hi : l.length ≤ i) (b : List α) : firstE err b i (l.drop i) = (0,0) := by
  rw [List.drop_of_length_le hi]; rfl
def nameE (before : List ByteArray) (s : ByteArray) : Int := if nmOk s then (if has before s then 5 else 0) else 6
def roomOwn (r : Room) : Int := if out 0 60 r.lo || out 0 60 r.hi || (out 0 9 r.fro || out 0 9 r.las) then 7 else if decide (r.hi < r.lo) || decide (r.las < r.fro) then 2 else 0
def shopOwn (s : Shop) : Int := if out 0 9 s.day || out 1 60 s.want then 7 else 0
def roomE (before : List Room) (r : Room) : Int := if nameE (before.map (·.name)) r.name ≠ 0 then nameE (before.map (·.name)) r.name else roomOwn r
def shopE (before : List Shop) (s : Shop) : Int := if nameE (before.map (·.name)) s.name ≠ 0 then nameE (before.map (·.name)) s.name else shopOwn s
def trainE (m : Market) (_before : List Train) (t : Train) : Int := if out 0 (m.rooms.length - 1) t.room || out 0 (m.shops.length - 1) t.shop then 4 else if out 0 5 t.days || out 1 60 t.cap then 7 else 0
def failE {α : Type} (err : List α → α → Int) (most : Int) (l : List α) : Int × Int := if most < l.length then (0,3) else firstE err [] 0 l
def check (m : Market) : Int × Int × Int :=
  if (failE roomE 3 m.rooms).2 ≠ 0 then (1, failE roomE 3 m.rooms) else if (failE shopE 4 m.shops).2 ≠ 0 then (2, failE shopE 4 m.shops) else if (failE (trainE m) 6 m.trains).2 ≠ 0 then (3, failE (trainE m) 6 m.trains) else (0,0,0)
end Go.Rt.Sh
/- Plain words of the shop layer: valid markets, which trains go, what sets of shops lack. No conditions. -/
namespace Go.Rt.Sh
structure Market.Ok (m : Market) : Prop where
  lr : m.rooms.length ≤ 3
  ls : m.shops.length ≤ 4
  lt : m.trains.length ≤ 6
  room : ∀ r ∈ m.rooms, 0 ≤ r.lo ∧ r.lo ≤ r.hi ∧ r.hi ≤ 200 ∧ 0 ≤ r.fro ∧ r.fro ≤ r.las ∧ r.las ≤ 9
  shop : ∀ s ∈ m.shops, 0 ≤ s.day ∧ s.day ≤ 9 ∧ 1 ≤ s.want ∧ s.want ≤ 60
  train : ∀ t ∈ m.trains, 0 ≤ t.room ∧ t.room < m.rooms.length ∧ 0 ≤ t.shop ∧ t.shop < m.shops.length ∧ 0 ≤ t.days ∧ t.days ≤ 6 ∧ 1 ≤ t.cap ∧ t.cap ≤ 60
theorem zEr {α : Type} (err : List α → α → Int) : ∀ (l b : List α) (i : Int), (firstE err b i l).2 = 0 → ∀ k (h : k < l.length), err (b ++ l.take k) l[k] = 0
  | [], _,_,_, k, h => by simp at h
  | x :: l, b, i, h, k, hk => by
    unfold firstE at h
    by_cases he : err b x = 0
    · rw [if_pos he] at h
      match k with
      | 0 => simpa using he
      | k + 1 =>
        have := zEr err l (b ++ [x]) (i + 1) h k (by simpa using hk)
        simpa using this
    · rw [if_neg he] at h; exact absurd h he
theorem failE_zero {α : Type} {err : List α → α → Int} {most : Int} {l : List α} (h : (failE err most l).2 = 0) : (l.length : Int) ≤ most ∧ ∀ k (h : k < l.length), err (l.take k) l[k] = 0 := by
  unfold failE at h
  split at h
  · simp at h
  · exact ⟨by omega, fun k hk => by have := zEr err l [] 0 h k hk; simpa using this⟩
theorem check_parts {m : Market} (h : (check m).2.2 = 0) : (failE roomE 3 m.rooms).2 = 0 ∧ (failE shopE 4 m.shops).2 = 0 ∧ (failE (trainE m) 6 m.trains).2 = 0 := by
  unfold check at h
  split at h
  · rename_i h1; exact absurd h h1
  · rename_i h1
    split at h
    · rename_i h2; exact absurd h h2
    · rename_i h2
      split at h
      · rename_i h3; exact absurd h h3
      · rename_i h3; exact ⟨by simpa using h1, by simpa using h2, by simpa using h3⟩
theorem roomE_zero {b : List Room} {r : Room} (h : roomE b r = 0) : 0 ≤ r.lo ∧ r.lo ≤ r.hi ∧ r.hi ≤ 60 ∧ 0 ≤ r.fro ∧ r.fro ≤ r.las ∧ r.las ≤ 9 := by
  unfold roomE at h
  split at h
  · rename_i h1; exact absurd h h1
  · unfold roomOwn out at h
    simp only [Bool.or_eq_true, decide_eq_true_eq] at h
    split at h
    · omega
    · split at h <;> omega
theorem shopE_zero {b : List Shop} {s : Shop} (h : shopE b s = 0) : 0 ≤ s.day ∧ s.day ≤ 9 ∧ 1 ≤ s.want ∧ s.want ≤ 60 := by
  unfold shopE at h
  split at h
  · rename_i h1; exact absurd h h1
  · unfold shopOwn out at h
    simp only [Bool.or_eq_true, decide_eq_true_eq] at h
    split at h <;> omega
theorem trainE_zero {m : Market} {b : List Train} {t : Train} (h : trainE m b t = 0) : 0 ≤ t.room ∧ t.room < m.rooms.length ∧ 0 ≤ t.shop ∧ t.shop < m.shops.length ∧ 0 ≤ t.days ∧ t.days ≤ 5 ∧ 1 ≤ t.cap ∧ t.cap ≤ 60 := by
  unfold trainE out at h
  simp only [Bool.or_eq_true, decide_eq_true_eq] at h
  split at h
  · omega
  · split at h <;> omega
theorem check_ok {m : Market} (h : (check m).2.2 = 0) : m.Ok := by
  obtain ⟨h1, h2, h3⟩ := check_parts h
  have f1 := failE_zero h1
  have f2 := failE_zero h2
  have f3 := failE_zero h3
  refine ⟨by omega, by omega, by omega, fun r hr => ?_, fun s hs => ?_, fun t ht => ?_⟩
  · obtain ⟨k, hk, rfl⟩ := List.getElem_of_mem hr
    have := roomE_zero (f1.2 k hk); omega
  · obtain ⟨k, hk, rfl⟩ := List.getElem_of_mem hs
    have := shopE_zero (f2.2 k hk); omega
  · obtain ⟨k, hk, rfl⟩ := List.getElem_of_mem ht
    have := trainE_zero (f3.2 k hk); omega
def leaves (m : Market) (t : Train) : Bool := match m.rooms[t.room.toNat]?, m.shops[t.shop.toNat]? with
  | some r, some s => !out r.fro r.las (s.day - t.days)
  | _, _ => false
theorem leaves_at {m : Market} {t : Train} (h1 : t.room.toNat < m.rooms.length) (h2 : t.shop.toNat < m.shops.length) : leaves m t = !out m.rooms[t.room.toNat].fro m.rooms[t.room.toNat].las (m.shops[t.shop.toNat].day - t.days) := by
  unfold leaves; rw [List.getElem?_eq_getElem h1, List.getElem?_eq_getElem h2]
def bit (b j : Nat) : Nat := (b >>> j) &&& 1
theorem bit_le (b j : Nat) : bit b j ≤ 1 := by unfold bit; exact Nat.and_le_right
def capsU (m : Market) (fro : Int) (b : Nat) : Nat → List Int
  | 0 => [0,0,0]
  | i + 1 => match m.trains[i]? with
    | some t => if (i : Int) < fro ∨ bit b t.shop.toNat = 0 ∨ leaves m t = false then capsU m fro b i else (capsU m fro b i).set t.room.toNat ((capsU m fro b i).getD t.room.toNat 0 + t.cap)
    | none => capsU m fro b i
def wantU (x : List Int) (b : Nat) : Nat → Int
  | 0 => 0
  | i + 1 => wantU x b i + x.getD (3 + i) 0 * (bit b i : Int)
def handU (c x : List Int) : Nat → Int
  | 0 => 0
  | i + 1 => handU c x i + min (c.getD i 0) (x.getD i 0)
def lackB (m : Market) (x : List Int) (b : Nat) : Int := wantU x b 4 - handU (capsU m (x.getD 7 0) b m.trains.length) x 3
def lacksV (m : Market) (x : List Int) : List Int := (List.range 16).map (lackB m x)
def lacksTo (m : Market) (x : List Int) (b : Nat) : List Int := (List.range 16).map fun k => if k < b then lackB m x k else 0
theorem zB1 (m : Market) (x : List Int) (b : Nat) : (lacksTo m x b).length = 16 := by simp [lacksTo]
theorem zB8 (m : Market) (x : List Int) : (lacksV m x).length = 16 := by simp [lacksV]
theorem lacksTo_zero (m : Market) (x : List Int) : lacksTo m x 0 = List.replicate 16 0 := by
  rfl
theorem lacksTo_all (m : Market) (x : List Int) : lacksTo m x 16 = lacksV m x := by
  unfold lacksTo lacksV
  refine List.map_congr_left fun k hk => ?_
  rw [List.mem_range] at hk
  rw [if_pos hk]
theorem lacksTo_succ {m : Market} {x : List Int} {b : Nat} (hb : b < 16) : (lacksTo m x b).set b (lackB m x b) = lacksTo m x (b + 1) := by
  unfold lacksTo
  apply List.ext_getElem (by simp)
  intro i h1 h2
  rw [List.getElem_set]
  simp only [List.getElem_map, List.getElem_range]
  by_cases h : b = i
  · subst h; simp
  · rw [if_neg h]
    by_cases h2 : i < b
    · rw [if_pos h2, if_pos (by omega)]
    · rw [if_neg h2, if_neg (by omega)]
theorem zCg (m : Market) (fro : Int) (b : Nat) : ∀ i, (capsU m fro b i).length = 3
  | 0 => rfl
  | i + 1 => by
    unfold capsU
    cases m.trains[i]? with
    | none => exact zCg m fro b i
    | some t => dsimp only; split
                · exact zCg m fro b i
                · rw [List.length_set]; exact zCg m fro b i
theorem zE0 {m : Market} {fro : Int} {b i : Nat} (hi : i < m.trains.length) (h : (i : Int) < fro ∨ bit b m.trains[i].shop.toNat = 0 ∨ leaves m m.trains[i] = false) : capsU m fro b (i + 1) = capsU m fro b i := by
  simp only [capsU, List.getElem?_eq_getElem hi, if_pos h]
theorem zFp {m : Market} {fro : Int} {b i : Nat} (hi : i < m.trains.length) (h : ¬ ((i : Int) < fro ∨ bit b m.trains[i].shop.toNat = 0 ∨ leaves m m.trains[i] = false)) : capsU m fro b (i + 1) = (capsU m fro b i).set m.trains[i].room.toNat ((capsU m fro b i).getD m.trains[i].room.toNat 0 + m.trains[i].cap) := by
  simp only [capsU, List.getElem?_eq_getElem hi, if_neg h]
theorem zF5 {m : Market} (hok : m.Ok) (fro : Int) (b : Nat) : ∀ i, i ≤ m.trains.length → ∀ z ∈ capsU m fro b i, 0 ≤ z ∧ z ≤ 60 * (i : Int)
  | 0, _, z, hz => by simp [capsU] at hz; omega
  | i + 1, hi, z, hz => by
    have ih := zF5 hok fro b i (by omega)
    have ht := hok.train _ (List.getElem_mem (show i < m.trains.length by omega))
    by_cases h : (i : Int) < fro ∨ bit b (m.trains[i]'(by omega)).shop.toNat = 0 ∨ leaves m (m.trains[i]'(by omega)) = false
    · rw [zE0 (by omega) h] at hz
      have := ih z hz; omega
    · rw [zFp (by omega) h] at hz
      rcases List.mem_or_eq_of_mem_set hz with h1 | h1
      · have := ih z h1; omega
      · have hg : 0 ≤ (capsU m fro b i).getD (m.trains[i]'(by omega)).room.toNat 0 ∧ (capsU m fro b i).getD (m.trains[i]'(by omega)).room.toNat 0 ≤ 60 * (i : Int) := by
          by_cases hl : (m.trains[i]'(by omega)).room.toNat < (capsU m fro b i).length
          · have := ih _ (List.getElem_mem hl); simpa [List.getD, hl] using this
          · simp [List.getD, hl]; omega
        omega
theorem zEw {l : List Int} {a b : Int} (ha : a ≤ 0) (hb : 0 ≤ b) (h : ∀ z ∈ l, a ≤ z ∧ z ≤ b) (i : Nat) : a ≤ l.getD i 0 ∧ l.getD i 0 ≤ b := by
  by_cases hl : i < l.length
  · have := h _ (List.getElem_mem hl); simpa [List.getD, hl] using this
  · simp [List.getD, hl]; omega
theorem mul_bit {a n : Int} {b j : Nat} (ha : 0 ≤ a) (h : -a ≤ n ∧ n ≤ a) : -a ≤ n * (bit b j : Int) ∧ n * (bit b j : Int) ≤ a := by
  have h1 := bit_le b j
  have h2 : bit b j = 0 ∨ bit b j = 1 := by omega
  rcases h2 with h2 | h2
  · rw [h2]; simp; omega
  · rw [h2]; simp; omega
theorem zE8 {x : List Int} (hx : ∀ z ∈ x, -10000 ≤ z ∧ z ≤ 10000) (b : Nat) : ∀ i : Nat, -(10000 * (i : Int)) ≤ wantU x b i ∧ wantU x b i ≤ 10000 * (i : Int)
  | 0 => by simp [wantU]
  | i + 1 => by
    have ih := zE8 hx b i
    have h1 := zEw (by omega) (by omega) hx (3 + i)
    have h2 := mul_bit (b := b) (j := i) (a := 10000) (by omega) h1
    unfold wantU
    omega
theorem zF2 {c x : List Int} (hc : ∀ z ∈ c, -10000 ≤ z ∧ z ≤ 10000) (hx : ∀ z ∈ x, -10000 ≤ z ∧ z ≤ 10000) : ∀ i : Nat, -(10000 * (i : Int)) ≤ handU c x i ∧ handU c x i ≤ 10000 * (i : Int)
  | 0 => by simp [handU]
  | i + 1 => by
    have ih := zF2 hc hx i
    have h1 := zEw (by omega) (by omega) hx i
    have h2 := zEw (by omega) (by omega) hc i
    unfold handU
    omega
end Go.Rt.Sh
/- The walking engine, part 10: bits of numbers, numbers within arrays of a struct, maps by structs of numbers. No conditions. -/
namespace Go.Rt
open Go.RowKit
section
variable {r : Option Nat} {P : Program} {ops : Array Oper} {Q : Exit → Act → World → Prop} {rest : List Oper} {n : Nat} {ρ : Nat → Value} {ds : List Deferred} {d : Option Tmp} {ty : TypeId} {p : String} {e : Array Edge} {g : Option (Nat × Bool)} {w w0 : World} {L : List (Nat × Obj)}
theorem ofI (a : Nat) (ha : a < 9223372036854775808) : (BitVec.ofInt 64 (a : Int)).toNat = a := by
  rw [BitVec.ofInt_natCast, BitVec.toNat_ofNat]; exact Nat.mod_eq_of_lt (by omega)
theorem y_and {t t2 : TypeId} {u v : Operand} {a b : Int} {x y : Nat} (ho : okO n u = true) (ho1 : okO n v = true) (hx : ev ρ u = .int .i64 a) (hy : ev ρ v = .int .i64 b) (ha : a = (x : Int)) (hb : b = (y : Int)) (h1 : x < 9223372036854775808) (h2 : y < 9223372036854775808) :
    Yd P (A n ρ ds) ⟨d, .binOp .and t u v t2, ty, p, e, g⟩ w (.int .i64 ((x &&& y : Nat) : Int)) := by
  subst ha hb
  refine zFz ho ho1 hx hy fun w => ?_
  have hle : x &&& y < 2 ^ 63 := Nat.and_lt_two_pow _ (by omega)
  have : Go.bits .and .i64 (x : Int) (y : Int) = ((x &&& y : Nat) : Int) := by
    show IntKind.i64.wrap ((BitVec.ofInt 64 (x : Int) &&& BitVec.ofInt 64 (y : Int)).toNat : Int) = _
    rw [BitVec.toNat_and, ofI x h1, ofI y h2, zE6 (by omega) (by omega)]
  rw [binOp_and, intBits_and, this]; rfl
theorem y_or {t t2 : TypeId} {u v : Operand} {a b : Int} {x y : Nat} (ho : okO n u = true) (ho1 : okO n v = true) (hx : ev ρ u = .int .i64 a) (hy : ev ρ v = .int .i64 b) (ha : a = (x : Int)) (hb : b = (y : Int)) (h1 : x < 9223372036854775808) (h2 : y < 9223372036854775808) :
    Yd P (A n ρ ds) ⟨d, .binOp .or t u v t2, ty, p, e, g⟩ w (.int .i64 ((x ||| y : Nat) : Int)) := by
  subst ha hb
  refine zFz ho ho1 hx hy fun w => ?_
  have hle : x ||| y < 2 ^ 63 := Nat.or_lt_two_pow (by omega) (by omega)
  have : Go.bits .or .i64 (x : Int) (y : Int) = ((x ||| y : Nat) : Int) := by
    show IntKind.i64.wrap ((BitVec.ofInt 64 (x : Int) ||| BitVec.ofInt 64 (y : Int)).toNat : Int) = _
    rw [BitVec.toNat_or, ofI x h1, ofI y h2, zE6 (by omega) (by omega)]
  rw [binOp_or, intBits_or, this]; rfl
def bitDiff (x y : Nat) : Nat := (BitVec.ofNat 64 x &&& ~~~(BitVec.ofNat 64 y)).toNat
theorem bitDiff_le (x y : Nat) (h : x < 9223372036854775808) : bitDiff x y ≤ x := by
  unfold bitDiff
  rw [BitVec.toNat_and, BitVec.toNat_ofNat, Nat.mod_eq_of_lt (by omega)]
  exact Nat.and_le_left
theorem y_andNot {t t2 : TypeId} {u v : Operand} {a b : Int} {x y : Nat} (ho : okO n u = true) (ho1 : okO n v = true) (hx : ev ρ u = .int .i64 a) (hy : ev ρ v = .int .i64 b) (ha : a = (x : Int)) (hb : b = (y : Int)) (h1 : x < 9223372036854775808) :
    Yd P (A n ρ ds) ⟨d, .binOp .andNot t u v t2, ty, p, e, g⟩ w (.int .i64 ((bitDiff x y : Nat) : Int)) := by
  subst ha hb
  refine zFz ho ho1 hx hy fun w => ?_
  have hle := bitDiff_le x y h1
  have : Go.bits .andNot .i64 (x : Int) (y : Int) = ((bitDiff x y : Nat) : Int) := by
    show IntKind.i64.wrap ((BitVec.ofInt 64 (x : Int) &&& ~~~(BitVec.ofInt 64 (y : Int))).toNat : Int) = _
    rw [BitVec.ofInt_natCast, BitVec.ofInt_natCast]
    exact zE6 (z := ((bitDiff x y : Nat) : Int)) (by omega) (by omega)
  rw [binOp_andNot, intBits_andNot, this]; rfl
theorem y_shr {t t2 : TypeId} {u v : Operand} {a b : Int} {x y : Nat} (ho : okO n u = true) (ho1 : okO n v = true) (hx : ev ρ u = .int .i64 a) (hy : ev ρ v = .int .i64 b) (ha : a = (x : Int)) (hb : b = (y : Int)) (h2 : y ≤ 60) :
    Yd P (A n ρ ds) ⟨d, .binOp .shr t u v t2, ty, p, e, g⟩ w (.int .i64 ((x >>> y : Nat) : Int)) := by
  subst ha hb
  refine zFz ho ho1 hx hy fun w => ?_
  rw [binOp_shr]
  unfold Op.shift
  have hb : IntKind.i64.bits = 64 := rfl
  rw [if_neg (by omega)]
  simp only [Int.toNat_natCast, hb, Nat.min_eq_left (show y ≤ 64 by omega), Sem.run_pure]
  congr 2
  rw [Int.fdiv_eq_ediv_of_nonneg _ (by exact_mod_cast Nat.zero_le _), Nat.shiftRight_eq_div_pow]
  norm_cast
theorem y_shl {t t2 : TypeId} {u v : Operand} {a b : Int} {x y : Nat} (ho : okO n u = true) (ho1 : okO n v = true) (hx : ev ρ u = .int .i64 a) (hy : ev ρ v = .int .i64 b) (ha : a = (x : Int)) (hb : b = (y : Int)) (h1 : x ≤ 1000) (h2 : y ≤ 40) :
    Yd P (A n ρ ds) ⟨d, .binOp .shl t u v t2, ty, p, e, g⟩ w (.int .i64 ((x <<< y : Nat) : Int)) := by
  subst ha hb
  refine zFz ho ho1 hx hy fun w => ?_
  rw [binOp_shl]
  unfold Op.shift
  have hb : IntKind.i64.bits = 64 := rfl
  rw [if_neg (by omega)]
  simp only [Int.toNat_natCast, hb, Nat.min_eq_left (show y ≤ 64 by omega), Sem.run_pure]
  have h3 : x * 2 ^ y ≤ 1000 * 2 ^ 40 := Nat.mul_le_mul h1 (Nat.pow_le_pow_right (by omega) h2)
  have h4 : (x : Int) * 2 ^ y = ((x * 2 ^ y : Nat) : Int) := by push_cast; rfl
  rw [h4, zE6 (by omega) (by omega), Nat.shiftLeft_eq]
theorem ats_intsO {b i o j : Nat} {t : TypeId} {l : List Int} (hi : L[i]? = some (b, blk t (iv l))) (hj : o + j < l.length) : Ats w0 L b (o + j * 1) [.int .i64 (l.getD (o + j) 0)] := by
  have := zDr (w0 := w0) (j := o + j) hi hj
  rwa [show 0 + (o + j) * 1 = o + j * 1 by omega] at this
theorem zG1 {b i o : Nat} {t : TypeId} {l : List Int} (hi : L[i]? = some (b, blk t (iv l))) (hj : o < l.length) : Ats w0 L b o [.int .i64 (l.getD o 0)] := by
  have := zDr (w0 := w0) (j := o) hi hj
  rwa [show 0 + o * 1 = o by omega] at this
theorem w_storeAtIO {t : TypeId} {x y : Operand} {b i o j : Nat} {tb : TypeId} {l : List Int} {z : Int} (hw : Want ops (A n ρ ds) ⟨none, .store t x y, ty, p, e, g⟩) (hs : ∀ w, (sizeOf t).run P w = .ok 1 w)
    (ho : okO n x = true) (ho1 : okO n y = true) (hx : ev ρ x = .pointer (some ⟨b, o + j * 1, none⟩)) (hy : ev ρ y = .int .i64 z) (hst : St w0 w L) (hi : L[i]? = some (b, blk tb (iv l))) (hl : o + j < l.length)
    (hk : ∀ w', St w0 w' (L.set i (b, blk tb (iv (l.set (o + j) z)))) → WL r P ops Q rest (A n ρ ds) w') :
    WL r P ops Q (⟨none, .store t x y, ty, p, e, g⟩ :: rest) (A n ρ ds) w :=
  zDe (j := o + j) hw hs ho ho1 (by rw [hx, show 0 + (o + j) * 1 = o + j * 1 by omega]) hy hst hi hl hk
theorem w_storeAtIC {t : TypeId} {x y : Operand} {b i o : Nat} {tb : TypeId} {l : List Int} {z : Int} (hw : Want ops (A n ρ ds) ⟨none, .store t x y, ty, p, e, g⟩) (hs : ∀ w, (sizeOf t).run P w = .ok 1 w)
    (ho : okO n x = true) (ho1 : okO n y = true) (hx : ev ρ x = .pointer (some ⟨b, o, none⟩)) (hy : ev ρ y = .int .i64 z) (hst : St w0 w L) (hi : L[i]? = some (b, blk tb (iv l))) (hl : o < l.length)
    (hk : ∀ w', St w0 w' (L.set i (b, blk tb (iv (l.set o z)))) → WL r P ops Q rest (A n ρ ds) w') :
    WL r P ops Q (⟨none, .store t x y, ty, p, e, g⟩ :: rest) (A n ρ ds) w :=
  zDe (j := o) hw hs ho ho1 (by rw [hx, show 0 + o * 1 = o by omega]) hy hst hi hl hk
theorem y_loadIP {k o : Nat} {t : TypeId} {x : Operand} {b i : Nat} {tb : TypeId} {l : List Int} (ha : ∀ w, (isAgg t).run P w = .ok true w) (hs : ∀ w, (sizeOf t).run P w = .ok k w) (hkl : o + k ≤ l.length) (hst : St w0 w L) (ho : okO n x = true) (hx : ev ρ x = .pointer (some ⟨b, o, none⟩))
    (hi : L[i]? = some (b, blk tb (iv l))) : Yd P (A n ρ ds) ⟨d, .load t x, ty, p, e, g⟩ w (ia ((l.drop o).take k)) := by
  have hl : (iv ((l.drop o).take k)).length = k := by simp; omega
  have := zAs (d := d) (ty := ty) (p := p) (e := e) (g := g) (P := P) (ds := ds) (vs := iv ((l.drop o).take k)) ha (by rw [hl]; exact hs) hst ho hx (zBm hi (by rw [hl]; simp [iv, List.map_drop, List.map_take]))
  exact this
theorem y_indexV {t el len : TypeId} {x y : Operand} {a : Value} {l : List Int} {z : Int} {i : Nat} (hU : P.underlying t = some (.array len el)) (hel : P.underlying el = some (.int .i64)) (hsz : ∀ w, (sizeOf el).run P w = .ok 1 w) (ho : okO n x = true) (ho1 : okO n y = true)
    (hx : ev ρ x = a) (ha : a = ia l) (hy : ev ρ y = .int .i64 z) (hz : z = (i : Int)) (hi : i < len) (hl : i < l.length) : Yd P (A n ρ ds) ⟨d, .index t x y, ty, p, e, g⟩ w (.int .i64 (l.getD i 0)) := by
  subst hz ha
  have e1 : (iv l).toArray[i * 1]? = some (.int .i64 (l.getD i 0)) := by simp [hl]
  have hp := zC6 (P := P) (w := w) hel e1
  have : (Instr.index t (ia l) (.int .i64 (i : Int))).run P w = .ok (.int .i64 (l.getD i 0)) w := by
    unfold Instr.index ia
    simp only [asIntOf, Sem.run_bind, Sem.run_pure, Result.andThen_ok, run_underlying hU]
    rw [if_pos ⟨by omega, by omega⟩]
    simp only [Sem.run_bind, hsz, Result.andThen_ok, Int.toNat_natCast, hp]
  simp only [Yd, execOp, zB6 ho, zB6 ho1, hx, hy, Sem.run_bind, this]
  rfl
theorem zFc {t : TypeId} {k o : Nat} (ha : ∀ w, (isAgg t).run P w = .ok true w) (hs : ∀ w, (sizeOf t).run P w = .ok k w) {l : List Int} : (part t (iv l).toArray o).run P w = .ok (ia ((l.drop o).take k)) w := by
  unfold part
  simp only [Sem.run_bind, ha, Result.andThen_ok, if_true, hs, Sem.run_pure]
  congr 2
  simp [iv, List.map_drop, List.map_take, List.extract_eq_take_drop]
def FF (P : Program) (f : Field) (k : Nat) : Prop := f.name ≠ "_" ∧ ((P.underlying f.type = some (.int .i64) ∧ k = 1) ∨ (flatInts P f.type k = true ∧ (∀ w, (isAgg f.type).run P w = .ok true w) ∧ ∀ w, (sizeOf f.type).run P w = .ok k w))
theorem zGv (dd : Nat) (l m : List Int) : ∀ (fs : List (Field × Nat)), (∀ q ∈ fs, FF P q.1 q.2 ∧ q.1.offset + q.2 ≤ l.length ∧ q.1.offset + q.2 ≤ m.length) →
    (Op.eqFields (dd + 2) (iv l).toArray (iv m).toArray (fs.map Prod.fst)).run P w = .ok (fs.all fun q => decide ((l.drop q.1.offset).take q.2 = (m.drop q.1.offset).take q.2)) w
  | [], _ => by simp [Op.eqFields]
  | q :: fs, hh => by
    obtain ⟨⟨hn, hff⟩, h1, h2⟩ := hh q (.head _)
    have ih := zGv dd l m fs fun j hj => hh j (.tail _ hj)
    have key : ∃ u v : Value, (part q.1.type (iv l).toArray q.1.offset).run P w = .ok u w ∧ (part q.1.type (iv m).toArray q.1.offset).run P w = .ok v w ∧ (Op.equalIn (dd + 2) q.1.type u v).run P w = .ok (decide ((l.drop q.1.offset).take q.2 = (m.drop q.1.offset).take q.2)) w := by
      rcases hff with ⟨hu, hk⟩ | ⟨hf, ha, hs⟩
      · have e1 : (iv l).toArray[q.1.offset]? = some (.int .i64 (l.getD q.1.offset 0)) := by simp [show q.1.offset < l.length by omega]
        have e2 : (iv m).toArray[q.1.offset]? = some (.int .i64 (m.getD q.1.offset 0)) := by simp [show q.1.offset < m.length by omega]
        refine ⟨_, _, zC6 hu e1, zC6 hu e2, ?_⟩
        rw [run_equalIn_int w (dd + 1) q.1.type .i64 .i64 _ _ hu, hk]
        congr 1
        rw [List.drop_eq_getElem_cons (show q.1.offset < l.length by omega), List.drop_eq_getElem_cons (show q.1.offset < m.length by omega)]
        simp only [List.take_succ_cons, List.take_zero, List.cons.injEq, and_true]
        have g1 : l.getD q.1.offset 0 = l[q.1.offset]'(by omega) := by simp [List.getD, show q.1.offset < l.length by omega]
        have g2 : m.getD q.1.offset 0 = m[q.1.offset]'(by omega) := by simp [List.getD, show q.1.offset < m.length by omega]
        rw [g1, g2]
        rfl
      · refine ⟨_, _, zFc ha hs, zFc ha hs, ?_⟩
        have hl1 : ((l.drop q.1.offset).take q.2).length = q.2 := by simp; omega
        have hl2 : ((m.drop q.1.offset).take q.2).length = q.2 := by simp; omega
        exact zDt dd (by rw [hl1]; exact hf) (by rw [hl1, hl2])
    obtain ⟨u, v, k1, k2, k3⟩ := key
    simp only [List.map_cons, Op.eqFields, hn, ne_eq, not_false_eq_true, if_true, Sem.run_bind, k1, k2, k3, Result.andThen_ok]
    simp only [List.all_cons]
    by_cases hv : (l.drop q.1.offset).take q.2 = (m.drop q.1.offset).take q.2
    · rw [decide_eq_true hv]
      simp only [Bool.not_true, Bool.false_eq_true, if_false, Bool.true_and]
      exact ih
    · rw [decide_eq_false hv]
      simp only [Bool.not_false, if_true, Sem.run_pure, Bool.false_and]
structure KeyTy (P : Program) (t : TypeId) (n : Nat) : Prop where
  chk : ∀ (em : Bool) (l : List Int) (w : World), l.length = n → (Instr.checkKey em 10000 t (ia l)).run P w = .ok () w
  eq : ∀ (l m : List Int) (w : World), l.length = n → m.length = n → (Op.equal t (ia l) (ia m)).run P w = .ok (decide (l = m)) w
  desc : ∃ u, P.underlying t = some u ∧ (∀ (l : List Int) (e : MapEntry) (es : List MapEntry), Instr.findNow u (ia l) (e :: es) 0 = none) ∧ ∀ (l : List Int) (w : World), (Instr.findKey t (ia l) []).run P w = .ok none w
theorem keyTy_struct {t : TypeId} {fs : Array Field} {k : Nat} (fq : List (Field × Nat)) (hu : P.underlying t = some (.struct fs)) (hp : P.stoodInHeld t = false) (hfs : fs.toList = fq.map Prod.fst) (hff : ∀ q ∈ fq, FF P q.1 q.2 ∧ q.1.offset + q.2 ≤ k)
    (hck : ∀ q ∈ fq, P.underlying q.1.type = some (.int .i64) ∨ ∃ el, P.underlying q.1.type = some (.array q.2 el) ∧ P.underlying el = some (.int .i64) ∧ ∀ w, (sizeOf el).run P w = .ok 1 w)
    (hcov : ∀ l m : List Int, l.length = k → m.length = k → (fq.all fun q => decide ((l.drop q.1.offset).take q.2 = (m.drop q.1.offset).take q.2)) = decide (l = m)) : KeyTy P t k := by
  refine ⟨fun em l w hl => ?_, fun l m w hl hm => ?_, ⟨_, hu, fun l e es => ?_, fun l w => ?_⟩⟩
  · have one : ∀ q ∈ fq, ∀ w, q.1.name ≠ "_" ∧ ∃ v, (part q.1.type (iv l).toArray q.1.offset).run P w = .ok v w ∧ (Instr.checkKey em 9999 q.1.type v).run P w = .ok () w := by
      intro q hq w
      obtain ⟨⟨hn, hf⟩, ho⟩ := hff q hq
      refine ⟨hn, ?_⟩
      rcases hf with ⟨hi, hk1⟩ | ⟨hf, ha, hs⟩
      · have e1 : (iv l).toArray[q.1.offset]? = some (.int .i64 (l.getD q.1.offset 0)) := by simp [show q.1.offset < l.length by omega]
        refine ⟨_, zC6 hi e1, ?_⟩
        unfold Instr.checkKey
        simp [Sem.run_bind, run_underlying hi, Result.andThen]
      · refine ⟨_, zFc ha hs, ?_⟩
        rcases hck q hq with hi | ⟨el, h1, h2, h3⟩
        · exfalso
          unfold flatInts at hf
          rw [hi] at hf
          cases hf
        · exact zHr (dd := 9997) h1 (by simp; omega) h2 h3
    rw [show (10000 : Nat) = 9999 + 1 from rfl, Instr.checkKey]
    unfold ia
    simp only [Sem.run_bind, run_underlying hu, Result.andThen_ok]
    rw [← Array.forIn_toList, hfs]
    have : ∀ (q : List (Field × Nat)), (∀ x ∈ q, x ∈ fq) → ∀ w, (forIn (q.map Prod.fst) PUnit.unit fun f _ => (do
        if f.name ≠ "_" then Instr.checkKey em 9999 f.type (← part f.type (iv l).toArray f.offset)
        pure (ForInStep.yield PUnit.unit) : Sem (ForInStep PUnit)) : Sem PUnit).run P w = .ok PUnit.unit w := by
      intro q
      induction q with
      | nil => intro _ w; simp
      | cons x q ih =>
        intro hx w
        obtain ⟨hn, v, h1, h2⟩ := one x (hx x (.head _)) w
        simp only [List.map_cons, List.forIn_cons, Sem.run_bind, hn, ne_eq, not_false_eq_true, if_true, h1, h2, Result.andThen_ok, Sem.run_pure]
        exact ih (fun y hy => hx y (.tail _ hy)) w
    have h := this fq (fun _ h => h) w
    exact congrArg (fun r => Result.andThen r fun a w' => Sem.run P (pure ()) w') h
  · have hfo : P.fieldsOf t = fs := by simp [Program.fieldsOf, hu]
    show (Op.equalIn ((9997 + 2) + 1) t (.agg (iv l).toArray) (.agg (iv m).toArray)).run P w = _
    rw [run_equalIn_struct w (9997 + 2) t _ _ (by rw [hfo]; exact hu) hp, hfo, hfs, zGv 9997 l m fq (fun q hq => ⟨(hff q hq).1, by have := (hff q hq).2; omega, by have := (hff q hq).2; omega⟩), hcov l m hl hm]
  · simp [Instr.findNow, Instr.sameNow]
  · simp [Instr.findKey, Sem.run_bind, run_underlying hu, Result.andThen, Instr.findNow]
theorem zHu {t : TypeId} {l : List Int} {k : Nat} (hK : KeyTy P t k) (hl : l.length = k) : ∀ (es : List MapEntry) (i : Nat), (∀ e ∈ es, ∃ m, m.length = k ∧ e.key = ia m) →
    ((∀ w, (Instr.findAsking t (ia l) es i).run P w = .ok none w) ∧ ∀ e ∈ es, e.key ≠ ia l) ∨ ∃ j e, (∀ w, (Instr.findAsking t (ia l) es i).run P w = .ok (some (j, e.val)) w) ∧ e ∈ es ∧ e.key = ia l
  | [], i, _ => .inl ⟨fun w => by simp [Instr.findAsking], by simp⟩
  | e :: es, i, hall => by
    obtain ⟨m, hm, hk⟩ := hall e (.head _)
    have h2 : ∀ w, (Op.equal t (ia l) e.key).run P w = .ok (decide (l = m)) w := fun w => by rw [hk]; exact hK.eq l m w hl hm
    by_cases hlm : l = m
    · rw [decide_eq_true hlm] at h2
      exact .inr ⟨i, e, fun w => by simp [Instr.findAsking, Sem.run_bind, h2, Result.andThen], .head _, by rw [hk, hlm]⟩
    · have h3 : ∀ w, (Instr.findAsking t (ia l) (e :: es) i).run P w = (Instr.findAsking t (ia l) es (i + 1)).run P w := by
        intro w
        simp [Instr.findAsking, Sem.run_bind, h2, hlm, Result.andThen]
      rcases zHu hK hl es (i + 1) (fun e he => hall e (.tail _ he)) with ⟨h4, h5⟩ | ⟨j, e', h4, h5, h6⟩
      · exact .inl ⟨fun w => (h3 w).trans (h4 w), fun e' he' => by
          cases he' with
          | head => rw [hk]; exact fun h => hlm (ia_inj h).symm
          | tail _ he' => exact h5 e' he'⟩
      · exact .inr ⟨j, e', fun w => (h3 w).trans (h4 w), .tail _ h5, h6⟩
theorem K_findKey {t : TypeId} {l : List Int} {k : Nat} (hK : KeyTy P t k) (hl : l.length = k) (es : List MapEntry) (hall : ∀ e ∈ es, ∃ m, m.length = k ∧ e.key = ia m) :
    ((∀ w, (Instr.findKey t (ia l) es).run P w = .ok none w) ∧ ∀ e ∈ es, e.key ≠ ia l) ∨ ∃ j e, (∀ w, (Instr.findKey t (ia l) es).run P w = .ok (some (j, e.val)) w) ∧ e ∈ es ∧ e.key = ia l := by
  obtain ⟨u, hu, hn, h0⟩ := hK.desc
  cases es with
  | nil => exact .inl ⟨h0 l, by simp⟩
  | cons e es =>
    have h : ∀ w, (Instr.findKey t (ia l) (e :: es)).run P w = (Instr.findAsking t (ia l) (e :: es) 0).run P w := fun w => by
      simp [Instr.findKey, Sem.run_bind, run_underlying hu, Result.andThen, hn l e es]
    rcases zHu hK hl (e :: es) 0 hall with ⟨h1, h2⟩ | ⟨j, e', h1, h2, h3⟩
    · exact .inl ⟨fun w => (h w).trans (h1 w), h2⟩
    · exact .inr ⟨j, e', fun w => (h w).trans (h1 w), h2, h3⟩
theorem K_lookupS {mt kt el : TypeId} {x y : Operand} {l : List Int} {a : Value} {m i k j : Nat} {es : Array MapEntry} {ck : Nat} {v : Value} (hU : P.underlying mt = some (.map kt el)) (hK : KeyTy P kt k) (hkl : l.length = k)
    (hst : St w0 w L) (ho : okO n x = true) (ho1 : okO n y = true) (hx : ev ρ x = .map (some m)) (hy : ev ρ y = a) (ha : a = ia l) (hi : L[i]? = some (m, .map es ck)) (hf : ∀ w, (Instr.findKey kt (ia l) es.toList).run P w = .ok (some (j, v)) w) :
    Yd P (A n ρ ds) ⟨d, .lookup mt x y true, ty, p, e, g⟩ w (.tuple #[v, .bool true]) := by
  unfold Yd
  have hc := hK.chk es.isEmpty l w hkl
  have : (Instr.lookup mt (.map (some m)) (ia l) true).run P w = .ok (.tuple #[v, .bool true]) w := by
    simp only [Instr.lookup, Sem.run_bind, run_underlying hU, Result.andThen_ok, hst.obj hi, Sem.run_pure, hc, hf, if_true]
  simp only [execOp, zB6 ho, zB6 ho1, hx, hy, ha, Sem.run_bind, this]
  rfl
theorem K_lookupN {mt kt el : TypeId} {x y : Operand} {l : List Int} {a : Value} {m i k : Nat} {es : Array MapEntry} {ck : Nat} {z : Value} (hU : P.underlying mt = some (.map kt el)) (hK : KeyTy P kt k) (hkl : l.length = k)
    (hz : ∀ w, (zeroValue el).run P w = .ok z w) (hst : St w0 w L) (ho : okO n x = true) (ho1 : okO n y = true) (hx : ev ρ x = .map (some m)) (hy : ev ρ y = a) (ha : a = ia l) (hi : L[i]? = some (m, .map es ck))
    (hf : ∀ w, (Instr.findKey kt (ia l) es.toList).run P w = .ok none w) : Yd P (A n ρ ds) ⟨d, .lookup mt x y true, ty, p, e, g⟩ w (.tuple #[z, .bool false]) := by
  unfold Yd
  have hc := hK.chk es.isEmpty l w hkl
  have : (Instr.lookup mt (.map (some m)) (ia l) true).run P w = .ok (.tuple #[z, .bool false]) w := by
    simp only [Instr.lookup, Sem.run_bind, run_underlying hU, Result.andThen_ok, hst.obj hi, Sem.run_pure, hc, hf, hz, if_true]
  simp only [execOp, zB6 ho, zB6 ho1, hx, hy, ha, Sem.run_bind, this]
  rfl
theorem K_mapAdd {mt kt el : TypeId} {x y z : Operand} {l : List Int} {a v : Value} {m i k : Nat} {es : Array MapEntry} {ck : Nat} (hw : Want ops (A n ρ ds) ⟨none, .mapUpdate mt x y z, ty, p, e, g⟩) (hU : P.underlying mt = some (.map kt el)) (hK : KeyTy P kt k) (hkl : l.length = k)
    (ho : okO n x = true) (ho1 : okO n y = true) (ho2 : okO n z = true) (hx : ev ρ x = .map (some m)) (hy : ev ρ y = a) (ha : a = ia l) (hz : ev ρ z = v) (hst : St w0 w L) (hi : L[i]? = some (m, .map es ck))
    (hf : ∀ w, (Instr.findKey kt (ia l) es.toList).run P w = .ok none w) (hk2 : ∀ w', St w0 w' (L.set i (m, .map (es.push { key := ia l, val := v, born := ck }) (ck + 1))) → WL r P ops Q rest (A n ρ ds) w') :
    WL r P ops Q (⟨none, .mapUpdate mt x y z, ty, p, e, g⟩ :: rest) (A n ρ ds) w := by
  refine w_unit hw (w' := w.putObj m (.map (es.push { key := ia l, val := v, born := ck }) (ck + 1))) ?_ rfl (hk2 _ (hst.putObj hi _))
  have hc := hK.chk false l w hkl
  have hs : (setObj m (.map (es.push { key := ia l, val := v, born := ck }) (ck + 1))).run P w = .ok () (w.putObj m (.map (es.push { key := ia l, val := v, born := ck }) (ck + 1))) := by
    simp [setObj, Sem.run, hst.get hi, World.putObj]
  have : (Instr.mapUpdate mt (.map (some m)) (ia l) v).run P w = .ok () (w.putObj m (.map (es.push { key := ia l, val := v, born := ck }) (ck + 1))) := by
    simp only [Instr.mapUpdate, Sem.run_bind, run_underlying hU, Result.andThen_ok, hst.obj hi, Sem.run_pure, hc, hf, hs]
  simp only [execOp, zB6 ho, zB6 ho1, zB6 ho2, hx, hy, ha, hz, Sem.run_bind, this]
  rfl
end
end Go.Rt
/- The walking engine, part 11: one number copied into a list at a place. No conditions. -/
namespace Go.Rt
open Go.RowKit
variable {r : Option Nat} {P : Program} {ops : Array Oper} {Q : Exit → Act → World → Prop} {rest : List Oper} {n : Nat} {ρ : Nat → Value} {ds : List Deferred} {ty : TypeId} {p : String} {e : Array Edge} {g : Option (Nat × Bool)} {w w0 : World} {L : List (Nat × Obj)}
theorem w_copy1 {d : Nat} {t el : TypeId} {i i2 : Nat} {x y : Operand} {b b2 j c c2 : Nat} {tb tb2 : TypeId} {l : List Int} {z : Int}
    (hw : Want ops (A n ρ ds) ⟨some d, .call ⟨.builtin .copy, #[x, y], #[t, t]⟩, ty, p, e, g⟩)
    (hU : P.underlying t = some (.slice el)) (hsz : ∀ w, (sizeOf el).run P w = .ok 1 w) (ho : okO n x = true) (ho1 : okO n y = true)
    (hx : ev ρ x = .slice (if c = j then some ⟨b, 0, none⟩ else (some (⟨b, 0, none⟩ : Addr)).map (·.add (j * 1))) (c - j) (c - j)) (hy : ev ρ y = .slice (some ⟨b2,0, none⟩) 1 c2)
    (hst : St w0 w L) (hi : L[i]? = some (b, blk tb (iv l))) (hi2 : L[i2]? = some (b2, blk tb2 [.int .i64 z])) (hj : j < c) (hc : l.length = c)
    (hk : ∀ w', St w0 w' (L.set i (b, blk tb (iv (l.set j z)))) → WL r P ops Q rest (A n (upd ρ d (.int .i64 1)) ds) w') :
    WL r P ops Q (⟨some d, .call ⟨.builtin .copy, #[x, y], #[t, t]⟩, ty, p, e, g⟩ :: rest) (A n ρ ds) w := by
  have hx2 : ev ρ x = .slice (some ⟨b, j, none⟩) (c - j) (c - j) := by
    rw [hx, if_neg (by omega)]
    by_cases h0 : j = 0
    · subst h0; rfl
    · simp [Addr.add, h0]
  have hm : Nat.min 1 (c - j) = 1 := Nat.min_eq_left (by omega)
  refine w_copy (xs := [.int .i64 z]) (vs := [.int .i64 z]) (k := 1) hw hU hsz ho ho1 hx2 hy hst hi (zBx (i := i2) (rows := [[.int .i64 z]]) hi2 (by simp) rfl) rfl hm.symm rfl (by simp [Value.oneCell']) (by simp; omega) (fun w' hst' => hk w' ?_)
  have : setMany (iv l) j [.int .i64 z] = iv (l.set j z) := by simp [setMany, iv, List.map_set]
  rwa [this] at hst'
theorem zCs {x y k : Nat} (h : x < k) : x >>> y < k := Nat.lt_of_le_of_lt (Nat.shiftRight_le _ _) h
end Go.Rt
/- Plain words of the shop layer: what the program's help functions return, as they go. No conditions. -/
namespace Go.Rt.Sh
def enterE (m : Market) (n : Int) (l : List Int) : Int := if (check m).2.2 ≠ 0 then (check m).2.2 else if l.any (out 0 (n - 1)) then 4 else 0
theorem zFv {m : Market} {n : Int} {l : List Int} (h : ¬ (check m).2.2 = 0) : enterE m n l = (check m).2.2 := by unfold enterE; rw [if_pos h]
theorem zFu {m : Market} {n : Int} {l : List Int} (h : (check m).2.2 = 0) (h2 : l.any (out 0 (n - 1)) = true) : enterE m n l = 4 := by unfold enterE; rw [if_neg (by simpa using h), if_pos h2]
theorem enterE_0 {m : Market} {n : Int} {l : List Int} (h : (check m).2.2 = 0) (h2 : l.any (out 0 (n - 1)) = false) : enterE m n l = 0 := by unfold enterE; rw [if_neg (by simpa using h), if_neg (by simp [h2])]
theorem zGw {m : Market} {n : Int} {l : List Int} (h : enterE m n l = 0) : (check m).2.2 = 0 ∧ ∀ x ∈ l, 0 ≤ x ∧ x < n := by
  unfold enterE at h
  split at h
  · rename_i h1; exact absurd h h1
  · rename_i h1
    split at h
    · cases h
    · rename_i h2
      refine ⟨by simpa using h1, fun x hx => ?_⟩
      have : out 0 (n - 1) x = false := by
        cases hh : out 0 (n - 1) x with
        | false => rfl
        | true => exact absurd (List.any_eq_true.2 ⟨x, hx, hh⟩) h2
      simp [out] at this
      omega
theorem zEg {m : Market} {n : Int} : enterE m n [] = (check m).2.2 := by
  unfold enterE
  split
  · rfl
  · rename_i h; simp at h ⊢; exact h.symm
def listL (b : Nat) : Nat → List Int
  | 0 => []
  | n + 1 => listL b n ++ if bit b n = 1 then [(n : Int)] else []
theorem zDm (b : Nat) : ∀ n, (listL b n).length ≤ n
  | 0 => by simp [listL]
  | n + 1 => by have := zDm b n; simp only [listL, List.length_append]; split <;> simp <;> omega
def listTo (b n k : Nat) : List Int := listL b k ++ List.replicate (n - (listL b k).length) 0
theorem zHf (b n k : Nat) (h : k ≤ n) : (listTo b n k).length = n := by have := zDm b k; simp [listTo]; omega
theorem listTo_zero (b n : Nat) : listTo b n 0 = List.replicate n 0 := by simp [listTo, listL]
theorem listL_yes {b k : Nat} (h : bit b k = 1) : listL b (k + 1) = listL b k ++ [(k : Int)] := by simp [listL, h]
theorem listL_no {b k : Nat} (h : ¬ bit b k = 1) : listL b (k + 1) = listL b k := by simp [listL, h]
theorem listTo_yes {b n k : Nat} (hk : k < n) (h : bit b k = 1) : (listTo b n k).set (listL b k).length k = listTo b n (k + 1) := by
  have := zDm b k
  unfold listTo
  rw [listL_yes h, List.set_append_right _ _ (Nat.le_refl _), Nat.sub_self, List.length_append, List.length_singleton]
  obtain ⟨q, hq⟩ : ∃ q, n - (listL b k).length = q + 1 := ⟨n - (listL b k).length - 1, by omega⟩
  rw [hq, List.replicate_succ, List.set_cons_zero, show n - ((listL b k).length + 1) = q by omega]
  simp
theorem listTo_no {b n k : Nat} (h : ¬ bit b k = 1) : listTo b n k = listTo b n (k + 1) := by unfold listTo; rw [listL_no h]
theorem listTo_take (b n : Nat) : (listTo b n n).take (listL b n).length = listL b n := by simp [listTo]
def before (a b : List Int) : Bool := decide (a.length < b.length) || (decide (a.length = b.length) && less a b)
def orBits : Nat → List Int → Option Nat
  | s, [] => some s
  | s, x :: l => if 0 < s >>> x.toNat then none else orBits (s ||| (1 <<< x.toNat)) l
theorem zEf {s : Nat} {l : List Int} {i : Nat} (hi : i < l.length) (h : 0 < s >>> l[i].toNat) : orBits s (l.drop i) = none := by rw [List.drop_eq_getElem_cons hi]; simp [orBits, h]
theorem orBits_step {s : Nat} {l : List Int} {i : Nat} (hi : i < l.length) (h : ¬ 0 < s >>> l[i].toNat) : orBits s (l.drop i) = orBits (s ||| (1 <<< l[i].toNat)) (l.drop (i + 1)) := by rw [List.drop_eq_getElem_cons hi]; simp only [orBits, if_neg h]
theorem zHc {s : Nat} {l : List Int} {i : Nat} (hi : l.length ≤ i) : orBits s (l.drop i) = some s := by rw [List.drop_of_length_le hi]; rfl
theorem or_small {s x : Nat} (h : s < 16) (hx : x < 4) : s ||| (1 <<< x) < 16 := by
  refine Nat.or_lt_two_pow (n := 4) h ?_
  match x, hx with
  | 0, _ => decide
  | 1, _ => decide
  | 2, _ => decide
  | 3, _ => decide
def someE (m : Market) (l : List Int) : Int := if enterE m m.shops.length l ≠ 0 then enterE m m.shops.length l else match orBits 0 l with | none => 2 | some _ => 0
def someS (l : List Int) : Nat := (orBits 0 l).getD 0
def handsTo (m : Market) (most : Bool) : Nat → List Int
  | 0 => List.replicate 8 0
  | i + 1 => (handsTo m most i).set i (match m.rooms[i]? with | some r => if most then r.hi else r.lo | none => 0)
def wantsTo (m : Market) (most : Bool) : Nat → List Int
  | 0 => handsTo m most m.rooms.length
  | i + 1 => (wantsTo m most i).set (3 + i) (match m.shops[i]? with | some s => s.want | none => 0)
def allX (m : Market) (most : Bool) : List Int := wantsTo m most m.shops.length
theorem zDi (m : Market) (b : Bool) : ∀ i, (handsTo m b i).length = 8
  | 0 => rfl
  | i + 1 => by simp [handsTo, zDi m b i]
theorem zDh (m : Market) (b : Bool) : ∀ i, (wantsTo m b i).length = 8
  | 0 => zDi m b _
  | i + 1 => by simp [wantsTo, zDh m b i]
theorem allX_len (m : Market) (b : Bool) : (allX m b).length = 8 := zDh m b _
theorem handsTo_no {m : Market} {i : Nat} (hi : i < m.rooms.length) : (handsTo m false i).set i m.rooms[i].lo = handsTo m false (i + 1) := by simp [handsTo, List.getElem?_eq_getElem hi]
theorem handsTo_yes {m : Market} {i : Nat} (hi : i < m.rooms.length) : ((handsTo m true i).set i m.rooms[i].lo).set i m.rooms[i].hi = handsTo m true (i + 1) := by simp [handsTo, List.getElem?_eq_getElem hi]
theorem wantsTo_succ {m : Market} {b : Bool} {i : Nat} (hi : i < m.shops.length) : (wantsTo m b i).set (3 + i) m.shops[i].want = wantsTo m b (i + 1) := by simp [wantsTo, List.getElem?_eq_getElem hi]
def worstStep (n sub : Nat) (lk : List Int) (s : List Int × Int) (b : Nat) : List Int × Int :=
  if bitDiff b sub ≠ 0 ∨ lk.getD b 0 < 1 ∨ lk.getD b 0 < s.2 then s else if s.2 < lk.getD b 0 ∨ before (listL b n) s.1 = true then (listL b n, lk.getD b 0) else s
def worstTo (n sub : Nat) (lk : List Int) : Nat → List Int × Int
  | 0 => ([], 0)
  | k + 1 => worstStep n sub lk (worstTo n sub lk k) k
def worst (m : Market) (x : List Int) (sub : Nat) : List Int × Int := worstTo m.shops.length sub (lacksV m x) 16
def servedS (m : Market) (x : List Int) (sub : Nat) : Bool := decide ((worst m x sub).2 = 0)
theorem zCr {n sub k : Nat} {lk : List Int} (h : bitDiff k sub ≠ 0 ∨ lk.getD k 0 < 1 ∨ lk.getD k 0 < (worstTo n sub lk k).2) : worstTo n sub lk k = worstTo n sub lk (k + 1) := by simp only [worstTo, worstStep]; rw [if_pos h]
theorem zDx {n sub k : Nat} {lk : List Int} (h1 : bitDiff k sub = 0) (h2 : 1 ≤ lk.getD k 0) (h3 : (worstTo n sub lk k).2 ≤ lk.getD k 0) (h : (worstTo n sub lk k).2 < lk.getD k 0 ∨ before (listL k n) (worstTo n sub lk k).1 = true) : (listL k n, lk.getD k 0) = worstTo n sub lk (k + 1) := by
  simp only [worstTo, worstStep]; rw [if_neg (by omega), if_pos h]
theorem zDp {n sub k : Nat} {lk : List Int} (h1 : bitDiff k sub = 0) (h2 : 1 ≤ lk.getD k 0) (h3 : (worstTo n sub lk k).2 ≤ lk.getD k 0) (h : lk.getD k 0 ≤ (worstTo n sub lk k).2) (h5 : before (listL k n) (worstTo n sub lk k).1 = false) : worstTo n sub lk k = worstTo n sub lk (k + 1) := by
  simp only [worstTo, worstStep]; rw [if_neg (by omega), if_neg (by rw [h5]; simp only [Bool.false_eq_true, or_false]; omega)]
theorem worstTo_pos (n sub : Nat) (lk : List Int) : ∀ k, 0 ≤ (worstTo n sub lk k).2
  | 0 => by simp [worstTo]
  | k + 1 => by
    have := worstTo_pos n sub lk k
    simp only [worstTo, worstStep]
    split
    · exact this
    · split
      · show 0 ≤ lk.getD k 0; omega
      · exact this
theorem worstTo_len (n sub : Nat) (lk : List Int) : ∀ k, (worstTo n sub lk k).1.length ≤ n
  | 0 => by simp [worstTo]
  | k + 1 => by
    have := worstTo_len n sub lk k
    simp only [worstTo, worstStep]
    split
    · exact this
    · split
      · exact zDm k n
      · exact this
def withoutStep (m : Market) (l : List Int) (b : Nat) : List Int :=
  if before (listL b m.shops.length) l && servedS m (allX m false) (bitDiff (1 <<< m.shops.length - 1) b) then listL b m.shops.length else l
def withoutTo (m : Market) : Nat → List Int
  | 0 => listL (1 <<< m.shops.length - 1) m.shops.length
  | k + 1 => withoutStep m (withoutTo m k) k
def withoutL (m : Market) : List Int := withoutTo m (1 <<< m.shops.length - 1)
theorem zE7 (m : Market) : ∀ k, (withoutTo m k).length ≤ m.shops.length
  | 0 => zDm _ _
  | k + 1 => by
    have := zE7 m k
    simp only [withoutTo, withoutStep]
    split
    · exact zDm _ _
    · exact this
end Go.Rt.Sh
/- Plain words of the shop layer: steps of the sum of what sets lack. No conditions. -/
namespace Go.Rt.Sh
theorem zFt {l : List Int} {b : Nat} {v : Int} (hb : b < l.length) : (l.set b v).getD b 0 = v := by simp [List.getD, hb]
theorem set_zero {m : Market} {x : List Int} {b : Nat} : (lacksTo m x b).set b 0 = lacksTo m x b := by
  apply List.ext_getElem (by simp)
  intro i h1 h2
  rw [List.getElem_set]
  split
  · rename_i h; subst h; simp [lacksTo]
  · rfl
theorem drop_get {x : List Int} {j : Nat} (hj : j < 4) : ((x.drop 3).take 4).getD j 0 = x.getD (3 + j) 0 := by
  simp [List.getD, List.getElem?_take, hj]
theorem set_want {m : Market} {x : List Int} {b j : Nat} (hb : b < 16) (hj : j < 4) :
    (((lacksTo m x b).set b (wantU x b j)).set b (((lacksTo m x b).set b (wantU x b j)).getD b 0 + ((x.drop 3).take 4).getD j 0 * (bit b j : Int))) = (lacksTo m x b).set b (wantU x b (j + 1)) := by
  rw [zFt (by rw [zB1]; exact hb), List.set_set, drop_get hj]; rfl
theorem set_hand {m : Market} {x c : List Int} {b q : Nat} {W : Int} (hb : b < 16) :
    (((lacksTo m x b).set b (W - handU c x q)).set b (((lacksTo m x b).set b (W - handU c x q)).getD b 0 - min (c.getD q 0) (x.getD q 0))) = (lacksTo m x b).set b (W - handU c x (q + 1)) := by
  rw [zFt (by rw [zB1]; exact hb), List.set_set]
  congr 1
  rw [show handU c x (q + 1) = handU c x q + min (c.getD q 0) (x.getD q 0) from rfl]
  omega
theorem set_done {m : Market} {x : List Int} {b : Nat} (hb : b < 16) : (lacksTo m x b).set b (wantU x b 4 - handU (capsU m (x.getD 7 0) b m.trains.length) x 3) = lacksTo m x (b + 1) := lacksTo_succ hb
theorem caps_get_bound {m : Market} (hok : m.Ok) (fro : Int) (b i q : Nat) (hi : i ≤ m.trains.length) : 0 ≤ (capsU m fro b i).getD q 0 ∧ (capsU m fro b i).getD q 0 ≤ 360 := by
  have h := zF5 hok fro b i hi
  have := zEw (a := 0) (b := 60 * (i : Int)) (by omega) (by omega) h q
  have := hok.lt
  omega
theorem caps_in {m : Market} (hok : m.Ok) (fro : Int) (b i : Nat) (hi : i ≤ m.trains.length) : ∀ z ∈ capsU m fro b i, -10000 ≤ z ∧ z ≤ 10000 := by
  intro z hz
  have := zF5 hok fro b i hi z hz
  have := hok.lt
  omega
def Small (x : List Int) : Prop := x.length = 8 ∧ ∀ z ∈ x, -10000 ≤ z ∧ z ≤ 10000
theorem lackB_bound {m : Market} (hok : m.Ok) {x : List Int} (hx : Small x) (b : Nat) : -100000 ≤ lackB m x b ∧ lackB m x b ≤ 100000 := by
  have h1 := zE8 hx.2 b 4
  have h2 := zF2 (caps_in hok (x.getD 7 0) b m.trains.length (Nat.le_refl _)) hx.2 3
  unfold lackB
  omega
theorem lacksV_get {m : Market} {x : List Int} {b : Nat} (hb : b < 16) : (lacksV m x).getD b 0 = lackB m x b := by simp [lacksV, List.getD, hb]
theorem handsTo_in {m : Market} (hok : m.Ok) (t : Bool) : ∀ i, i ≤ m.rooms.length → ∀ z ∈ handsTo m t i, 0 ≤ z ∧ z ≤ 200
  | 0, _, z, hz => by simp [handsTo] at hz; omega
  | i + 1, hi, z, hz => by
    have ih := handsTo_in hok t i (by omega)
    have hr := hok.room _ (List.getElem_mem (show i < m.rooms.length by omega))
    simp only [handsTo, List.getElem?_eq_getElem (show i < m.rooms.length by omega)] at hz
    rcases List.mem_or_eq_of_mem_set hz with h1 | h1
    · exact ih z h1
    · rw [h1]; split <;> omega
theorem zG3 {m : Market} (hok : m.Ok) (t : Bool) : ∀ i, i ≤ m.shops.length → ∀ z ∈ wantsTo m t i, 0 ≤ z ∧ z ≤ 200
  | 0, _, z, hz => handsTo_in hok t _ (Nat.le_refl _) z hz
  | i + 1, hi, z, hz => by
    have ih := zG3 hok t i (by omega)
    have hr := hok.shop _ (List.getElem_mem (show i < m.shops.length by omega))
    simp only [wantsTo, List.getElem?_eq_getElem (show i < m.shops.length by omega)] at hz
    rcases List.mem_or_eq_of_mem_set hz with h1 | h1
    · exact ih z h1
    · rw [h1]; omega
theorem zDz {m : Market} (hok : m.Ok) (t : Bool) : Small (allX m t) := ⟨allX_len m t, fun z hz => by have := zG3 hok t _ (Nat.le_refl _) z hz; omega⟩
def goesTo (m : Market) : Nat → List Int
  | 0 => []
  | i + 1 => match m.trains[i]? with
    | some t => if leaves m t then goesTo m i ++ [(i : Int)] else goesTo m i
    | none => goesTo m i
theorem goesTo_yes {m : Market} {i : Nat} (hi : i < m.trains.length) (h : leaves m m.trains[i] = true) : goesTo m (i + 1) = goesTo m i ++ [(i : Int)] := by simp [goesTo, List.getElem?_eq_getElem hi, h]
theorem goesTo_no {m : Market} {i : Nat} (hi : i < m.trains.length) (h : leaves m m.trains[i] = false) : goesTo m (i + 1) = goesTo m i := by simp [goesTo, List.getElem?_eq_getElem hi, h]
theorem goesTo_len (m : Market) : ∀ i, (goesTo m i).length ≤ i
  | 0 => Nat.le_refl _
  | i + 1 => by
    have := goesTo_len m i
    unfold goesTo
    cases m.trains[i]? with
    | none => dsimp only; omega
    | some t => dsimp only; split
                · simp; omega
                · omega
def goesP (m : Market) : List Int × Int := if (check m).2.2 ≠ 0 then ([], (check m).2.2) else (goesTo m m.trains.length, 0)
def canP (m : Market) (l : List Int) : Int × Int := if someE m l ≠ 0 then (0, someE m l) else if servedS m (allX m false) (someS l) then (1,0) else if servedS m (allX m true) (someS l) then (0,0) else (2,0)
def proofP (m : Market) (l : List Int) : List Int × Int × Int := if someE m l ≠ 0 then ([], 0, someE m l) else if (worst m (allX m false) (someS l)).2 = 0 then ([], 0,9) else ((worst m (allX m false) (someS l)).1, (worst m (allX m false) (someS l)).2,0)
def withoutP (m : Market) : List Int × Int := if (check m).2.2 ≠ 0 then ([], (check m).2.2) else (withoutL m, 0)
def moreX (m : Market) (r i : Nat) : List Int := (allX m false).set r ((allX m false).getD r 0 + i)
def moreTo (m : Market) (r i : Nat) : Nat → Option Nat
  | 0 => none
  | k + 1 => if servedS m (moreX m r i) (1 <<< m.shops.length - 1) then some i else moreTo m r (i + 1) k
def moreP (m : Market) (r : Int) : Int × Int := if enterE m m.rooms.length [r] ≠ 0 then (0, enterE m m.rooms.length [r]) else match moreTo m r.toNat 0 61 with | some n => ((n : Int), 0) | none => (0,9)
theorem zEz (m : Market) (r i : Nat) : (moreX m r i).length = 8 := by simp [moreX, allX_len]
theorem moreX_zero (m : Market) (r : Nat) : moreX m r 0 = allX m false := by
  unfold moreX
  apply List.ext_getElem (by simp)
  intro j h1 h2
  rw [List.getElem_set]
  split
  · rename_i h; subst h; simp [List.getD, h2]
  · rfl
theorem moreX_get {m : Market} {r i : Nat} (hr : r < 8) : (moreX m r i).getD r 0 = (allX m false).getD r 0 + i := by unfold moreX; exact zFt (by rw [allX_len]; exact hr)
theorem moreX_succ {m : Market} {r i : Nat} (hr : r < 8) : (moreX m r i).set r ((moreX m r i).getD r 0 + 1) = moreX m r (i + 1) := by
  rw [moreX_get hr]; unfold moreX; rw [List.set_set]; congr 1; push_cast; omega
theorem allX_in {m : Market} (hok : m.Ok) (t : Bool) : ∀ z ∈ allX m t, 0 ≤ z ∧ z ≤ 200 := zG3 hok t _ (Nat.le_refl _)
theorem moreX_small {m : Market} (hok : m.Ok) (r i : Nat) (hi : i ≤ 61) : Small (moreX m r i) := by
  refine ⟨zEz m r i, fun z hz => ?_⟩
  unfold moreX at hz
  rcases List.mem_or_eq_of_mem_set hz with h | h
  · have := allX_in hok false z h; omega
  · have := zEw (a := 0) (b := 200) (by omega) (by omega) (allX_in hok false) r
    omega
theorem moreTo_yes {m : Market} {r i k : Nat} (h : servedS m (moreX m r i) (1 <<< m.shops.length - 1) = true) : moreTo m r i (k + 1) = some i := by unfold moreTo; rw [if_pos h]
theorem moreTo_no {m : Market} {r i k : Nat} (h : servedS m (moreX m r i) (1 <<< m.shops.length - 1) = false) : moreTo m r i (k + 1) = moreTo m r (i + 1) k := by rw [moreTo, if_neg (by simp [h])]
end Go.Rt.Sh
