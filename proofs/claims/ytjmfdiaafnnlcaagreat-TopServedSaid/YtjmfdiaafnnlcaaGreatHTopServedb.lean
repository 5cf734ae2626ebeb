/- Own texts of this claim, joined. No conditions. -/
import Derived.Test.YtjmfdiaafnnlcaaGreatRows
import Derived.Laws.RangeAny
import Derived.Laws.Bits64b
import Derived.Test.YtjmfdiaafnnlcaaGreatHTopServeda
set_option linter.unusedVariables false
set_option linter.unusedSimpArgs false
set_option maxRecDepth 20000
namespace Go.Proofs
open Go.Proofs.Tryz
open Go.Rt
attribute [local irreducible] WL WC Con Yd At Ats Sl Agree DW

theorem zCb : Tryz.prog.follows .mixedOrders = true := by kernel_rfl
theorem c14 {w0 w : World} {F : List (Nat × Obj)} (n lo hi : Int) (hs : St w0 w F) : Con Tryz.prog 14 [.int .i64 n, .int .i64 lo, .int .i64 hi] w fun v w' => v = .bool (decide (lo ≤ n ∧ n ≤ hi)) ∧ St w0 w' F := by
  refine zAt (n := 15) func14 rfl rfl (zNl rfl) ?_
  refine zAe (fun K2 g3 => (zAa (zA5 rfl rfl (zAd (zAb (g3 _ _ (zAe (fun K4 g0 => (zAa (zAz rfl rfl (zAz rfl rfl (w_p (zKa rfl rfl rfl rfl) rfl ?_))))))))))))
  refine w_p (zAi (v := .bool _) rfl rfl) rfl (zBi (fun h5 => ?_) (fun h5 => ?_))
  ·
   try simp only [zS] at h5
   refine w_y rfl rfl rfl (zA2 rfl rfl) rfl ?_
   refine w_y rfl rfl rfl (zA2 rfl rfl) rfl ?_
   refine w_y rfl rfl rfl (y_leq rfl rfl rfl rfl) rfl ?_
   refine w_p (zAx (v := .bool _) rfl rfl rfl rfl) rfl (w_p (zAo (v := .bool _) rfl rfl) rfl (zAd (zAb (g0 _ _ (zAy (zA1 (l := [.tmp 6]) (vs := [_]) rfl ⟨⟨rfl, (rfl : _ = Value.bool _)⟩, trivial⟩ ?_))))))
   exact ⟨congrArg Value.bool (by rw [Bool.eq_iff_iff]; simp [*] <;> omega), hs⟩
  try simp only [zS] at h5
  refine zAh rfl rfl rfl ?_
  refine zAh rfl rfl rfl ?_
  refine zAh rfl rfl rfl ?_
  refine w_p (zA9 (v := _) rfl rfl rfl rfl) rfl (w_p (zAo (v := .bool _) rfl rfl) rfl (zAd (zAb (g0 _ _ (zAy (zA1 (l := [.tmp 6]) (vs := [_]) rfl ⟨⟨rfl, (rfl : _ = Value.bool _)⟩, trivial⟩ ?_))))))
  exact ⟨congrArg Value.bool (by rw [Bool.eq_iff_iff]; simp [*] <;> omega), hs⟩

theorem c51 {w0 w : World} {F : List (Nat × Obj)} (a b lo hi : Int) (hs : St w0 w F) : Con Tryz.prog 51 [.agg #[.int .i64 a, .int .i64 b], .int .i64 lo, .int .i64 hi] w fun v w' => v = .int .i64 (ends a b lo hi) ∧ St w0 w' F := by
  refine zAt (n := 26) func51 rfl rfl (zNl rfl) ?_
  refine zAe (fun K2 g9 => (zAa (zCa (v := .agg #[.int _ _, .int _ _]) (cs := [_,_]) zAc rfl rfl rfl hs (fun b3 w4 g7 => ?_))))
  refine zA5 rfl rfl (zAd (zAb (g9 _ _ (zAe (fun K7 ga => (zAe (fun K9 g8 => (zAa (w_p (zAf (o := 0) (i := 0) underlying46 rfl sizeOf3 rfl rfl rfl) rfl ?_)))))))))
  refine w_p (zAj isAgg3 g7 rfl rfl (zAk (i := 0) (vs := [_]) rfl rfl)) rfl (zAz rfl rfl (zAz rfl rfl (zAr zAc call14 rfl rfl rfl rfl (c14 _ _ _ g7) ?_)))
  rintro _ gi ⟨rfl, g3⟩
  refine w_p (zDz rfl rfl) rfl (w_p (zAi (v := .bool _) rfl rfl) rfl (zBi (fun g4 => ?_) (fun g4 => ?_)))
  ·
   try simp only [zS] at g4
   refine zAh rfl rfl rfl ?_
   refine zAh rfl rfl rfl ?_
   refine zAh rfl rfl rfl ?_
   refine zAh rfl rfl rfl ?_
   refine zAh rfl rfl rfl ?_
   refine zAh rfl rfl rfl ?_
   refine w_p (zAx (v := _) rfl rfl rfl rfl) rfl (zAd (zAb (g8 _ _ (zB1 rfl rfl ?_))))
   refine zAe (fun gj gb => (zAa (zA5 rfl rfl (zAd (zAb (gb _ _ (zAy (zAg (zA1 (l := [.tmp 6]) (vs := [_]) rfl ⟨⟨rfl, (rfl : _ = Value.int _ _)⟩, trivial⟩ ?_)))))))))
   exact ⟨congrArg (Value.int .i64) (by simp only [ends, out, Bool.or_eq_true, decide_eq_true_eq]; (repeat' split) <;> omega), g3.tail⟩
  try simp only [zS] at g4
  refine w_y rfl rfl rfl (zAf (o := 1) (i := 1) underlying46 rfl sizeOf3 rfl rfl rfl) rfl ?_
  refine w_y rfl rfl rfl (zAj isAgg3 g3 rfl rfl (zAk (i := 0) (vs := [_]) rfl rfl)) rfl ?_
  refine w_y rfl rfl rfl (zA2 rfl rfl) rfl ?_
  refine w_y rfl rfl rfl (zA2 rfl rfl) rfl ?_
  refine zAr (zAq rfl rfl rfl) call14 rfl rfl rfl rfl (c14 _ _ _ g3) ?_
  rintro _ gk ⟨rfl, g0⟩
  refine w_y rfl rfl rfl (zDz rfl rfl) rfl ?_
  refine w_p (zA9 (v := .bool _) rfl rfl rfl rfl) rfl (zAd (zAb (g8 _ _ (zAu rfl rfl (fun g5 => ?_) (fun g5 => ?_)))))
  ·
   try simp only [zS] at g5
   refine zAe (fun gm gc => (zAa (zA5 rfl rfl (zAd (zAb (gc _ _ (zAy (zAg (zA1 (l := [.tmp 6]) (vs := [_]) rfl ⟨⟨rfl, (rfl : _ = Value.int _ _)⟩, trivial⟩ ?_)))))))))
   exact ⟨congrArg (Value.int .i64) (by simp only [ends, out, Bool.or_eq_true, decide_eq_true_eq]; (repeat' split) <;> omega), g0.tail⟩
  try simp only [zS] at g5
  refine zAs (zAb (ga _ _ (zAe (fun gn gd => (zAe (fun gq gf => (zAa (w_p (zAf (o := 1) (i := 1) underlying46 rfl sizeOf3 rfl rfl rfl) rfl (w_p (zAj isAgg3 g0 rfl rfl (zAk (i := 0) (vs := [_]) rfl rfl)) rfl ?_)))))))))
  refine w_p (zAf (o := 0) (i := 0) underlying46 rfl sizeOf3 rfl rfl rfl) rfl (w_p (zAj isAgg3 g0 rfl rfl (zAk (i := 0) (vs := [_]) rfl rfl)) rfl (w_p (zBw rfl rfl rfl rfl) rfl (zAd (zAb (gf _ _ (zAu rfl rfl (fun g6 => ?_) (fun g6 => ?_)))))))
  ·
   try simp only [zS] at g6
   refine zAe (fun gr gg => (zAa (zA5 rfl rfl (zAd (zAb (gg _ _ (zAy (zAg (zA1 (l := [.tmp 6]) (vs := [_]) rfl ⟨⟨rfl, (rfl : _ = Value.int _ _)⟩, trivial⟩ ?_)))))))))
   exact ⟨congrArg (Value.int .i64) (by simp only [ends, out, Bool.or_eq_true, decide_eq_true_eq]; (repeat' split) <;> omega), g0.tail⟩
  try simp only [zS] at g6
  refine zAs (zAb (gd _ _ (zAe (fun gt gh => (zAa (zA5 rfl rfl (zAd (zAb (gh _ _ (zAy (zA1 (l := [.tmp 6]) (vs := [_]) rfl ⟨⟨rfl, (rfl : _ = Value.int _ _)⟩, trivial⟩ ?_)))))))))))
  exact ⟨congrArg (Value.int .i64) (by simp only [ends, out, Bool.or_eq_true, decide_eq_true_eq]; (repeat' split) <;> omega), g0.tail⟩

theorem less_at (a b : List Int) (i : Nat) (h : a.take i = b.take i) (ha : i ≤ a.length) (hb : i ≤ b.length) : less a b = less (a.drop i) (b.drop i) := by
  induction i generalizing a b with
  | zero => rfl
  | succ i ih =>
    cases a with
    | nil => simp at ha
    | cons x a =>
      cases b with
      | nil => simp at hb
      | cons y b =>
        simp only [List.take_succ_cons, List.cons.injEq] at h
        obtain ⟨rfl, h⟩ := h
        simp only [less, if_true, List.drop_succ_cons]
        exact ih a b h (by simpa using ha) (by simpa using hb)
theorem zGu {a b : List Int} {i : Nat} (h : a.take i = b.take i) (ha : i < a.length) (hb : i < b.length) (e : a[i] = b[i]) : a.take (i + 1) = b.take (i + 1) := by
  rw [List.take_succ_eq_append_getElem ha, List.take_succ_eq_append_getElem hb, h, e]
theorem zDi {a b : List Int} {i : Nat} (h : a.take i = b.take i) (ha : i ≤ a.length) (hb : i = b.length) : less a b = false := by
  rw [less_at a b i h ha (by omega), hb, List.drop_length]
  cases a.drop b.length <;> rfl
theorem zCj {a b : List Int} {i : Nat} (h : a.take i = b.take i) (ha : i = a.length) (hb : i < b.length) : less a b = true := by
  rw [less_at a b i h (by omega) (by omega), ha, List.drop_length]
  have : b.drop a.length = b[a.length] :: b.drop (a.length + 1) := List.drop_eq_getElem_cons (by omega)
  rw [this]; rfl
theorem zD1 {a b : List Int} {i : Nat} (h : a.take i = b.take i) (ha : i < a.length) (hb : i < b.length) (hne : a[i] ≠ b[i]) : less a b = decide (a[i] < b[i]) := by
  rw [less_at a b i h (by omega) (by omega), List.drop_eq_getElem_cons ha, List.drop_eq_getElem_cons hb]
  simp only [less]
  rw [if_neg hne]
theorem zC9 {w0 : World} {F : List (Nat × Obj)} {a : Option Addr} {l : List Int} {i : Nat} (h : Sl w0 F a 1 (l.map fun x => [Value.int .i64 x])) (hi : i < l.length) :
    ∃ b off, a = some ⟨b, off, none⟩ ∧ Ats w0 F b (off + i * 1) [.int .i64 l[i]] := by
  obtain ⟨b, off, ha, _, hat⟩ := h.at (i := i) (row := [.int .i64 l[i]]) (by simp [hi])
  exact ⟨b, off, ha, hat⟩
theorem c65 {w0 w : World} {F : List (Nat × Obj)} (aa ab : Option Addr) (a b : List Int) (ca cb : Nat) (hla : a.length ≤ 9223372036854775807) (ha : Sl w0 F aa 1 (a.map fun x => [Value.int .i64 x])) (hb : Sl w0 F ab 1 (b.map fun x => [Value.int .i64 x])) (hs : St w0 w F) :
  Con Tryz.prog 65 [.slice aa a.length ca, .slice ab b.length cb] w fun v w' => v = .bool (less a b) ∧ St w0 w' F := by
  refine zAt (n := 48) func65 rfl rfl (zNl rfl) ?_
  refine zAe (fun K2 gm => (zAa (zA5 rfl rfl (zAd (zAb (gm _ _ (zAe (fun K4 gn => (zAa (zA5 rfl rfl (zAd (zAb (gn _ _ (zAe (fun K6 g6 => (zAw ?_))))))))))))))))
  refine zBs [5,6,7,8,9,10,11,12,13,14,15,16,17,18,19,20,21,22,23,24,25,26,27,28] [5] (fun k vs w => ∃ i : Nat, vs = [.int .i64 i] ∧ i ≤ a.length ∧ i ≤ b.length ∧ k = a.length - i ∧ a.take i = b.take i ∧ St w0 w F) (a.length) ?_ ?_
  ·
   exact ⟨0, rfl, by omega, by omega, by omega, rfl, hs⟩
  intro k vs μ w9 hI K8 gq
  obtain ⟨i, rfl, hia, hib, rfl, hpre, hs⟩ := hI
  refine zAe (fun gC gr => (zAe (fun gE g7 => (zCn [] [(0,0),(1,0),(2,0),(3,0),(4,0),(5,0),(6,0),(7,0),(8,0),(9,0),(10,0),(11,0),(12,0),(13,0),(14,1),(15,0),(16,0),(17,0),(18,1),(19,0),(20,0)] zCb (by kernel_rfl) hs (fun gF g0 => ?_)))))
  refine d_w rfl (fun _ => zA2 rfl rfl) rfl ?_
  refine d_w rfl (fun _ => zAi (v := .slice _ _ _) rfl rfl) rfl ?_
  refine d_w rfl (fun _ => zA8 underlying43 rfl rfl) rfl ?_
  refine d_w rfl (fun _ => zBw rfl rfl rfl rfl) rfl ?_
  refine d_w rfl (fun _ => zAi (v := .bool _) rfl rfl) rfl ?_
  refine zEw (fun g8 => ?_) (fun g8 => ?_)
  ·
   try simp only [zS] at g8
   refine zBn rfl (zAq rfl rfl rfl) rfl (fun _ => (zA2 rfl rfl)) ?_
   refine zBn rfl (zAq rfl rfl rfl) rfl (fun _ => (zAi (v := .slice _ _ _) rfl rfl)) ?_
   refine zBn rfl (zAq rfl rfl rfl) rfl (fun _ => (zA8 underlying43 rfl rfl)) ?_
   refine zBn rfl (zAq rfl rfl rfl) rfl (fun _ => (zBw rfl rfl rfl rfl)) ?_
   refine d_w rfl (fun _ => zAx (v := .bool _) rfl rfl rfl rfl) rfl ?_
   refine d_w rfl (fun _ => zAi (v := .bool _) rfl rfl) rfl ?_
   refine zEw (fun g9 => ?_) (fun g9 => ?_)
   ·
    try simp only [zS] at g9
    refine zBn rfl (zAq rfl rfl rfl) rfl (fun _ => (zAi (v := .slice _ _ _) rfl rfl)) ?_
    refine zBn rfl (zAq rfl rfl rfl) rfl (fun _ => (zA2 rfl rfl)) ?_
    have hia2 : i < a.length := by omega
    have hib2 : i < b.length := by omega
    obtain ⟨ba, oa, rfl, hxa⟩ := zC9 ha hia2
    obtain ⟨bb, ob, rfl, hxb⟩ := zC9 hb hib2
    refine zBn rfl (zAq rfl rfl rfl) rfl (fun _ => (zA3 underlying43 sizeOf3 rfl rfl rfl rfl (i := _) rfl (by omega))) ?_
    refine zBd rfl (zAq rfl rfl rfl) rfl g0 (fun _ hq => (zAj isAgg3 hq rfl rfl hxa)) ?_
    refine zBn rfl (zAq rfl rfl rfl) rfl (fun _ => (zAi (v := .slice _ _ _) rfl rfl)) ?_
    refine zBn rfl (zAq rfl rfl rfl) rfl (fun _ => (zA2 rfl rfl)) ?_
    refine zBn rfl (zAq rfl rfl rfl) rfl (fun _ => (zA3 underlying43 sizeOf3 rfl rfl rfl rfl (i := _) rfl (by omega))) ?_
    refine zBd rfl (zAq rfl rfl rfl) rfl g0 (fun _ hq => (zAj isAgg3 hq rfl rfl hxb)) ?_
    refine zBn rfl (zAq rfl rfl rfl) rfl (fun _ => (zB6 rfl rfl rfl rfl)) ?_
    refine d_w rfl (fun _ => zAx (v := .bool _) rfl rfl rfl rfl) rfl ?_
    refine zCf ?_
    refine zAb (g7 _ _ (zAu rfl rfl (fun ga => ?_) (fun ga => ?_)))
    ·
     try simp only [zS] at ga
     refine zAs (zAb (gr _ _ (zAw ?_)))
     refine zAa (zAz rfl rfl (w_p (zBg rfl rfl rfl rfl (by omega) (by omega)) rfl (zBe rfl rfl (zAd (zAl (zAb (gq _ _ (nxI (a.length - (i + 1)) (by omega) ?_))))))))
     exact ⟨i + 1, rfl, by omega, by omega, rfl, zGu hpre (by omega) (by omega) (by assumption), g0⟩
    try simp only [zS] at ga
    refine zBl (zAm (zAm (zA0 (zAb (g6 _ _ (zAe (fun gG gt => (zAe (fun gH gu => (zAa (zAz rfl rfl (w_p (zAi (v := .slice _ _ _) rfl rfl) rfl ?_))))))))))))
    refine w_p (zA8 underlying43 rfl rfl) rfl (w_p (zB6 rfl rfl rfl rfl) rfl (zAd (zAb (gu _ _ (zAu rfl rfl (fun gb => ?_) (fun gb => ?_))))))
    ·
     try simp only [zS] at gb
     refine zAe (fun gI gv => (zAa (zA5 rfl rfl (zAd (zAb (gv _ _ (zAy (zAg (zA1 (l := [.tmp 4]) (vs := [_]) rfl ⟨⟨rfl, (rfl : _ = Value.bool _)⟩, trivial⟩ ?_)))))))))
     exact ⟨(by first | (rw [zDi hpre hia (by omega)]; rfl) | (rw [zCj hpre (by omega) (by omega)]; rfl) | (rw [zD1 hpre (by omega) (by omega) (by first | assumption | omega)]; rfl)), g0⟩
    try simp only [zS] at gb
    refine zAs (zAb (gt _ _ (zAe (fun gJ gi => (zCn [] [(0,0),(1,0),(2,0),(3,0),(4,0),(5,0),(6,0),(7,0),(8,1),(9,0),(10,0),(11,0),(12,1),(13,0),(14,0),(15,0)] zCb (by kernel_rfl) g0 (fun gK g3 => ?_))))))
    refine d_w rfl (fun _ => zA2 rfl rfl) rfl ?_
    refine d_w rfl (fun _ => zAi (v := .slice _ _ _) rfl rfl) rfl ?_
    refine d_w rfl (fun _ => zA8 underlying43 rfl rfl) rfl ?_
    refine d_w rfl (fun _ => zB6 rfl rfl rfl rfl) rfl ?_
    refine d_w rfl (fun _ => zAi (v := .bool _) rfl rfl) rfl ?_
    refine zEw (fun gc => ?_) (fun gc => ?_)
    ·
     try simp only [zS] at gc
     refine zBj rfl rfl rfl rfl ?_
     refine zBj rfl rfl rfl rfl ?_
     refine zBj rfl rfl rfl rfl ?_
     refine zC6 rfl rfl rfl rfl g3 ?_
     refine zBj rfl rfl rfl rfl ?_
     refine zBj rfl rfl rfl rfl ?_
     refine zBj rfl rfl rfl rfl ?_
     refine zC6 rfl rfl rfl rfl g3 ?_
     refine zBj rfl rfl rfl rfl ?_
     refine d_w rfl (fun _ => zAx (v := _) rfl rfl rfl rfl) rfl ?_
     refine d_w rfl (fun _ => zAo (v := .bool _) rfl rfl) rfl ?_
     refine zCf ?_
     refine zAb (gi _ _ (zAy (zA1 (l := [.tmp 4]) (vs := [_]) rfl ⟨⟨rfl, (rfl : _ = Value.bool _)⟩, trivial⟩ ?_)))
     exact ⟨(by first | (rw [zDi hpre hia (by omega)]; rfl) | (rw [zCj hpre (by omega) (by omega)]; rfl) | (rw [zD1 hpre (by omega) (by omega) (by first | assumption | omega)]; rfl)), g3⟩
    try simp only [zS] at gc
    refine zBn rfl (zAq rfl rfl rfl) rfl (fun _ => (zAi (v := .slice _ _ _) rfl rfl)) ?_
    refine zBn rfl (zAq rfl rfl rfl) rfl (fun _ => (zA2 rfl rfl)) ?_
    refine zBn rfl (zAq rfl rfl rfl) rfl (fun _ => (zA3 underlying43 sizeOf3 rfl rfl rfl rfl (i := _) rfl (by omega))) ?_
    refine zBd rfl (zAq rfl rfl rfl) rfl g3 (fun _ hq => (zAj isAgg3 hq rfl rfl hxa)) ?_
    refine zBn rfl (zAq rfl rfl rfl) rfl (fun _ => (zAi (v := .slice _ _ _) rfl rfl)) ?_
    refine zBn rfl (zAq rfl rfl rfl) rfl (fun _ => (zA2 rfl rfl)) ?_
    refine zBn rfl (zAq rfl rfl rfl) rfl (fun _ => (zA3 underlying43 sizeOf3 rfl rfl rfl rfl (i := _) rfl (by omega))) ?_
    refine zBd rfl (zAq rfl rfl rfl) rfl g3 (fun _ hq => (zAj isAgg3 hq rfl rfl hxb)) ?_
    refine zBn rfl (zAq rfl rfl rfl) rfl (fun _ => (zBw rfl rfl rfl rfl)) ?_
    refine d_w rfl (fun _ => zA9 (v := .bool _) rfl rfl rfl rfl) rfl ?_
    refine d_w rfl (fun _ => zAo (v := .bool _) rfl rfl) rfl ?_
    refine zCf ?_
    refine zAb (gi _ _ (zAy (zA1 (l := [.tmp 4]) (vs := [_]) rfl ⟨⟨rfl, (rfl : _ = Value.bool _)⟩, trivial⟩ ?_)))
    exact ⟨(by first | (rw [zDi hpre hia (by omega)]; rfl) | (rw [zCj hpre (by omega) (by omega)]; rfl) | (rw [zD1 hpre (by omega) (by omega) (by first | assumption | omega)]; rfl)), g3⟩
   try simp only [zS] at g9
   refine zBj rfl rfl rfl rfl ?_
   refine zBj rfl rfl rfl rfl ?_
   refine zBj rfl rfl rfl rfl ?_
   refine zC6 rfl rfl rfl rfl g0 ?_
   refine zBj rfl rfl rfl rfl ?_
   refine zBj rfl rfl rfl rfl ?_
   refine zBj rfl rfl rfl rfl ?_
   refine zC6 rfl rfl rfl rfl g0 ?_
   refine zBj rfl rfl rfl rfl ?_
   refine d_w rfl (fun _ => zA9 (v := _) rfl rfl rfl rfl) rfl ?_
   refine zCf ?_
   refine zAb (g7 _ _ (zBx rfl rfl ?_))
   refine zBl (zAm (zAm (zA0 (zAb (g6 _ _ (zAe (fun gL gw => (zAe (fun gM gx => (zAa (zAz rfl rfl (w_p (zAi (v := .slice _ _ _) rfl rfl) rfl ?_))))))))))))
   refine w_p (zA8 underlying43 rfl rfl) rfl (w_p (zB6 rfl rfl rfl rfl) rfl (zAd (zAb (gx _ _ (zAu rfl rfl (fun gd => ?_) (fun gd => ?_))))))
   ·
    try simp only [zS] at gd
    refine zAe (fun gN gy => (zAa (zA5 rfl rfl (zAd (zAb (gy _ _ (zAy (zAg (zA1 (l := [.tmp 4]) (vs := [_]) rfl ⟨⟨rfl, (rfl : _ = Value.bool _)⟩, trivial⟩ ?_)))))))))
    exact ⟨(by first | (rw [zDi hpre hia (by omega)]; rfl) | (rw [zCj hpre (by omega) (by omega)]; rfl) | (rw [zD1 hpre (by omega) (by omega) (by first | assumption | omega)]; rfl)), g0⟩
   try simp only [zS] at gd
   refine zAs (zAb (gw _ _ (zAe (fun gP gj => (zCn [] [(0,0),(1,0),(2,0),(3,0),(4,0),(5,0),(6,0),(7,0),(8,1),(9,0),(10,0),(11,0),(12,1),(13,0),(14,0),(15,0)] zCb (by kernel_rfl) g0 (fun gQ g4 => ?_))))))
   refine d_w rfl (fun _ => zA2 rfl rfl) rfl ?_
   refine d_w rfl (fun _ => zAi (v := .slice _ _ _) rfl rfl) rfl ?_
   refine d_w rfl (fun _ => zA8 underlying43 rfl rfl) rfl ?_
   refine d_w rfl (fun _ => zB6 rfl rfl rfl rfl) rfl ?_
   refine d_w rfl (fun _ => zAi (v := .bool _) rfl rfl) rfl ?_
   refine zEw (fun gf => ?_) (fun gf => ?_)
   ·
    try simp only [zS] at gf
    refine zBj rfl rfl rfl rfl ?_
    refine zBj rfl rfl rfl rfl ?_
    refine zBj rfl rfl rfl rfl ?_
    refine zC6 rfl rfl rfl rfl g4 ?_
    refine zBj rfl rfl rfl rfl ?_
    refine zBj rfl rfl rfl rfl ?_
    refine zBj rfl rfl rfl rfl ?_
    refine zC6 rfl rfl rfl rfl g4 ?_
    refine zBj rfl rfl rfl rfl ?_
    refine d_w rfl (fun _ => zAx (v := _) rfl rfl rfl rfl) rfl ?_
    refine d_w rfl (fun _ => zAo (v := .bool _) rfl rfl) rfl ?_
    refine zCf ?_
    refine zAb (gj _ _ (zAy (zA1 (l := [.tmp 4]) (vs := [_]) rfl ⟨⟨rfl, (rfl : _ = Value.bool _)⟩, trivial⟩ ?_)))
    exact ⟨(by first | (rw [zDi hpre hia (by omega)]; rfl) | (rw [zCj hpre (by omega) (by omega)]; rfl) | (rw [zD1 hpre (by omega) (by omega) (by first | assumption | omega)]; rfl)), g4⟩
   try simp only [zS] at gf
   refine zBn rfl (zAq rfl rfl rfl) rfl (fun _ => (zAi (v := .slice _ _ _) rfl rfl)) ?_
   refine zBn rfl (zAq rfl rfl rfl) rfl (fun _ => (zA2 rfl rfl)) ?_
   have hia2 : i < a.length := by omega
   have hib2 : i < b.length := by omega
   obtain ⟨ba, oa, rfl, hxa⟩ := zC9 ha hia2
   obtain ⟨bb, ob, rfl, hxb⟩ := zC9 hb hib2
   refine zBn rfl (zAq rfl rfl rfl) rfl (fun _ => (zA3 underlying43 sizeOf3 rfl rfl rfl rfl (i := _) rfl (by omega))) ?_
   refine zBd rfl (zAq rfl rfl rfl) rfl g4 (fun _ hq => (zAj isAgg3 hq rfl rfl hxa)) ?_
   refine zBn rfl (zAq rfl rfl rfl) rfl (fun _ => (zAi (v := .slice _ _ _) rfl rfl)) ?_
   refine zBn rfl (zAq rfl rfl rfl) rfl (fun _ => (zA2 rfl rfl)) ?_
   refine zBn rfl (zAq rfl rfl rfl) rfl (fun _ => (zA3 underlying43 sizeOf3 rfl rfl rfl rfl (i := _) rfl (by omega))) ?_
   refine zBd rfl (zAq rfl rfl rfl) rfl g4 (fun _ hq => (zAj isAgg3 hq rfl rfl hxb)) ?_
   refine zBn rfl (zAq rfl rfl rfl) rfl (fun _ => (zBw rfl rfl rfl rfl)) ?_
   refine d_w rfl (fun _ => zA9 (v := .bool _) rfl rfl rfl rfl) rfl ?_
   refine d_w rfl (fun _ => zAo (v := .bool _) rfl rfl) rfl ?_
   refine zCf ?_
   refine zAb (gj _ _ (zAy (zA1 (l := [.tmp 4]) (vs := [_]) rfl ⟨⟨rfl, (rfl : _ = Value.bool _)⟩, trivial⟩ ?_)))
   exact ⟨(by first | (rw [zDi hpre hia (by omega)]; rfl) | (rw [zCj hpre (by omega) (by omega)]; rfl) | (rw [zD1 hpre (by omega) (by omega) (by first | assumption | omega)]; rfl)), g4⟩
  try simp only [zS] at g8
  refine zBj rfl rfl rfl rfl ?_
  refine zBj rfl rfl rfl rfl ?_
  refine zBj rfl rfl rfl rfl ?_
  refine zBj rfl rfl rfl rfl ?_
  refine d_w rfl (fun _ => zA9 (v := _) rfl rfl rfl rfl) rfl ?_
  refine d_w rfl (fun _ => zAi (v := .bool _) rfl rfl) rfl ?_
  refine zBj rfl rfl rfl rfl ?_
  refine zBj rfl rfl rfl rfl ?_
  refine zBj rfl rfl rfl rfl ?_
  refine zC6 rfl rfl rfl rfl g0 ?_
  refine zBj rfl rfl rfl rfl ?_
  refine zBj rfl rfl rfl rfl ?_
  refine zBj rfl rfl rfl rfl ?_
  refine zC6 rfl rfl rfl rfl g0 ?_
  refine zBj rfl rfl rfl rfl ?_
  refine d_w rfl (fun _ => zA9 (v := _) rfl rfl rfl rfl) rfl ?_
  refine zCf ?_
  refine zAb (g7 _ _ (zBx rfl rfl ?_))
  refine zBl (zAm (zAm (zA0 (zAb (g6 _ _ (zAe (fun gR gz => (zAe (fun gS gA => (zAa (zAz rfl rfl (w_p (zAi (v := .slice _ _ _) rfl rfl) rfl ?_))))))))))))
  refine w_p (zA8 underlying43 rfl rfl) rfl (w_p (zB6 rfl rfl rfl rfl) rfl (zAd (zAb (gA _ _ (zAu rfl rfl (fun gg => ?_) (fun gg => ?_))))))
  ·
   try simp only [zS] at gg
   refine zAe (fun gU gB => (zAa (zA5 rfl rfl (zAd (zAb (gB _ _ (zAy (zAg (zA1 (l := [.tmp 4]) (vs := [_]) rfl ⟨⟨rfl, (rfl : _ = Value.bool _)⟩, trivial⟩ ?_)))))))))
   exact ⟨(by first | (rw [zDi hpre hia (by omega)]; rfl) | (rw [zCj hpre (by omega) (by omega)]; rfl) | (rw [zD1 hpre (by omega) (by omega) (by first | assumption | omega)]; rfl)), g0⟩
  try simp only [zS] at gg
  refine zAs (zAb (gz _ _ (zAe (fun gV gk => (zCn [] [(0,0),(1,0),(2,0),(3,0),(4,0),(5,0),(6,0),(7,0),(8,1),(9,0),(10,0),(11,0),(12,1),(13,0),(14,0),(15,0)] zCb (by kernel_rfl) g0 (fun gW g5 => ?_))))))
  refine d_w rfl (fun _ => zA2 rfl rfl) rfl ?_
  refine d_w rfl (fun _ => zAi (v := .slice _ _ _) rfl rfl) rfl ?_
  refine d_w rfl (fun _ => zA8 underlying43 rfl rfl) rfl ?_
  refine d_w rfl (fun _ => zB6 rfl rfl rfl rfl) rfl ?_
  refine d_w rfl (fun _ => zAi (v := .bool _) rfl rfl) rfl ?_
  refine zEw (fun gh => ?_) (fun gh => ?_)
  ·
   try simp only [zS] at gh
   refine zBj rfl rfl rfl rfl ?_
   refine zBj rfl rfl rfl rfl ?_
   refine zBj rfl rfl rfl rfl ?_
   refine zC6 rfl rfl rfl rfl g5 ?_
   refine zBj rfl rfl rfl rfl ?_
   refine zBj rfl rfl rfl rfl ?_
   refine zBj rfl rfl rfl rfl ?_
   refine zC6 rfl rfl rfl rfl g5 ?_
   refine zBj rfl rfl rfl rfl ?_
   refine d_w rfl (fun _ => zAx (v := _) rfl rfl rfl rfl) rfl ?_
   refine d_w rfl (fun _ => zAo (v := .bool _) rfl rfl) rfl ?_
   refine zCf ?_
   refine zAb (gk _ _ (zAy (zA1 (l := [.tmp 4]) (vs := [_]) rfl ⟨⟨rfl, (rfl : _ = Value.bool _)⟩, trivial⟩ ?_)))
   exact ⟨(by first | (rw [zDi hpre hia (by omega)]; rfl) | (rw [zCj hpre (by omega) (by omega)]; rfl) | (rw [zD1 hpre (by omega) (by omega) (by first | assumption | omega)]; rfl)), g5⟩
  try simp only [zS] at gh
  refine zBn rfl (zAq rfl rfl rfl) rfl (fun _ => (zAi (v := .slice _ _ _) rfl rfl)) ?_
  refine zBn rfl (zAq rfl rfl rfl) rfl (fun _ => (zA2 rfl rfl)) ?_
  have hia2 : i < a.length := by omega
  have hib2 : i < b.length := by omega
  obtain ⟨ba, oa, rfl, hxa⟩ := zC9 ha hia2
  obtain ⟨bb, ob, rfl, hxb⟩ := zC9 hb hib2
  refine zBn rfl (zAq rfl rfl rfl) rfl (fun _ => (zA3 underlying43 sizeOf3 rfl rfl rfl rfl (i := _) rfl (by omega))) ?_
  refine zBd rfl (zAq rfl rfl rfl) rfl g5 (fun _ hq => (zAj isAgg3 hq rfl rfl hxa)) ?_
  refine zBn rfl (zAq rfl rfl rfl) rfl (fun _ => (zAi (v := .slice _ _ _) rfl rfl)) ?_
  refine zBn rfl (zAq rfl rfl rfl) rfl (fun _ => (zA2 rfl rfl)) ?_
  refine zBn rfl (zAq rfl rfl rfl) rfl (fun _ => (zA3 underlying43 sizeOf3 rfl rfl rfl rfl (i := _) rfl (by omega))) ?_
  refine zBd rfl (zAq rfl rfl rfl) rfl g5 (fun _ hq => (zAj isAgg3 hq rfl rfl hxb)) ?_
  refine zBn rfl (zAq rfl rfl rfl) rfl (fun _ => (zBw rfl rfl rfl rfl)) ?_
  refine d_w rfl (fun _ => zA9 (v := .bool _) rfl rfl rfl rfl) rfl ?_
  refine d_w rfl (fun _ => zAo (v := .bool _) rfl rfl) rfl ?_
  refine zCf ?_
  refine zAb (gk _ _ (zAy (zA1 (l := [.tmp 4]) (vs := [_]) rfl ⟨⟨rfl, (rfl : _ = Value.bool _)⟩, trivial⟩ ?_)))
  exact ⟨(by first | (rw [zDi hpre hia (by omega)]; rfl) | (rw [zCj hpre (by omega) (by omega)]; rfl) | (rw [zD1 hpre (by omega) (by omega) (by first | assumption | omega)]; rfl)), g5⟩

theorem c31 {w0 w : World} {F : List (Nat × Obj)} (aa ab : Option Addr) (a b : List Int) (ca cb : Nat) (hla : a.length ≤ 9223372036854775807) (ha : Sl w0 F aa 1 (a.map fun x => [Value.int .i64 x])) (hb : Sl w0 F ab 1 (b.map fun x => [Value.int .i64 x])) (hs : St w0 w F) :
  Con Tryz.prog 31 [.slice aa a.length ca, .slice ab b.length cb] w fun v w' => v = .bool (decide (a = b)) ∧ St w0 w' F := by
  refine zAt (n := 22) func31 rfl rfl (zNl rfl) ?_
  refine zAe (fun K2 g4 => (zAa (zA5 rfl rfl (zAd (zAb (g4 _ _ (zAe (fun K4 g0 => (zAa (w_p (zAi (v := .slice _ _ _) rfl rfl) rfl ?_))))))))))
  refine w_p (zA8 underlying43 rfl rfl) rfl (w_p (zAi (v := .slice _ _ _) rfl rfl) rfl (w_p (zA8 underlying43 rfl rfl) rfl (w_p (zB6 rfl rfl rfl rfl) rfl (w_p (zAi (v := .bool _) rfl rfl) rfl (zBi (fun h5 => ?_) (fun h5 => ?_))))))
  ·
   try simp only [zS] at h5
   refine w_y rfl rfl rfl (zAi (v := .slice _ _ _) rfl rfl) rfl ?_
   refine w_y rfl rfl rfl (zAi (v := .slice _ _ _) rfl rfl) rfl ?_
   refine zAr (zAq rfl rfl rfl) call65 rfl rfl rfl rfl (c65 _ _ _ _ _ _ (by omega) (by assumption) (by assumption) hs) ?_
   rintro _ w7 ⟨rfl, g3⟩
   refine w_y rfl rfl rfl (zDz rfl rfl) rfl ?_
   refine w_p (zAx (v := .bool _) rfl rfl rfl rfl) rfl (w_p (zAi (v := .bool _) rfl rfl) rfl (zBi (fun h9 => ?_) (fun h9 => ?_)))
   ·
    try simp only [zS] at h9
    refine w_y rfl rfl rfl (zAi (v := .slice _ _ _) rfl rfl) rfl ?_
    refine w_y rfl rfl rfl (zAi (v := .slice _ _ _) rfl rfl) rfl ?_
    refine zAr (zAq rfl rfl rfl) call65 rfl rfl rfl rfl (c65 _ _ _ _ _ _ (by omega) (by assumption) (by assumption) g3) ?_
    rintro _ g6 ⟨rfl, g5⟩
    refine w_y rfl rfl rfl (zDz rfl rfl) rfl ?_
    refine w_p (zAx (v := .bool _) rfl rfl rfl rfl) rfl (w_p (zAo (v := .bool _) rfl rfl) rfl (zAd (zAb (g0 _ _ (zAy (zA1 (l := [.tmp 4]) (vs := [_]) rfl ⟨⟨rfl, (rfl : _ = Value.bool _)⟩, trivial⟩ ?_))))))
    exact ⟨congrArg Value.bool (by rw [← ints_eq, Bool.eq_iff_iff]; simp [*] <;> omega), g5⟩
   try simp only [zS] at h9
   refine zAh rfl rfl rfl ?_
   refine zAh rfl rfl rfl ?_
   refine zAh rfl rfl rfl ?_
   refine zAh rfl rfl rfl ?_
   refine w_p (zA9 (v := _) rfl rfl rfl rfl) rfl (w_p (zAo (v := .bool _) rfl rfl) rfl (zAd (zAb (g0 _ _ (zAy (zA1 (l := [.tmp 4]) (vs := [_]) rfl ⟨⟨rfl, (rfl : _ = Value.bool _)⟩, trivial⟩ ?_))))))
   exact ⟨congrArg Value.bool (by rw [← ints_eq, Bool.eq_iff_iff]; simp [*] <;> omega), g3⟩
  try simp only [zS] at h5
  refine zAh rfl rfl rfl ?_
  refine zAh rfl rfl rfl ?_
  refine zAh rfl rfl rfl ?_
  refine zAh rfl rfl rfl ?_
  refine w_p (zA9 (v := _) rfl rfl rfl rfl) rfl (w_p (zAi (v := .bool _) rfl rfl) rfl (zAh rfl rfl rfl ?_))
  refine zAh rfl rfl rfl ?_
  refine zAh rfl rfl rfl ?_
  refine zAh rfl rfl rfl ?_
  refine w_p (zA9 (v := _) rfl rfl rfl rfl) rfl (w_p (zAo (v := .bool _) rfl rfl) rfl (zAd (zAb (g0 _ _ (zAy (zA1 (l := [.tmp 4]) (vs := [_]) rfl ⟨⟨rfl, (rfl : _ = Value.bool _)⟩, trivial⟩ ?_))))))
  exact ⟨congrArg Value.bool (by rw [← ints_eq, Bool.eq_iff_iff]; simp [*] <;> omega), hs⟩

theorem sl_strs {w0 : World} {F : List (Nat × Obj)} {a : Option Addr} {l : List ByteArray} {i : Nat} (h : Sl w0 F a 1 (l.map fun x => [Value.string x])) (hi : i < l.length) :
    ∃ b off, a = some ⟨b, off, none⟩ ∧ Ats w0 F b (off + i * 1) [.string l[i]] := by
  obtain ⟨b, off, ha, _, hat⟩ := h.at (i := i) (row := [.string l[i]]) (by simp [hi])
  exact ⟨b, off, ha, hat⟩
theorem notmem_take {l : List ByteArray} {s : ByteArray} {i : Nat} (h : has (l.take i) s = false) (hi : i < l.length) (hne : ¬ l[i] = s) : has (l.take (i + 1)) s = false := by
  unfold has at *
  rw [List.take_succ_eq_append_getElem hi, List.any_append, h]; simp [hne]
theorem c49 {w0 w : World} {F : List (Nat × Obj)} (aa : Option Addr) (l : List ByteArray) (s : ByteArray) (ca : Nat) (hla : l.length ≤ 9223372036854775807) (ha : Sl w0 F aa 1 (l.map fun x => [Value.string x])) (hs : St w0 w F) :
  Con Tryz.prog 49 [.slice aa l.length ca, .string s] w fun v w' => (∃ z, v = .int .i64 z ∧ (0 ≤ z ↔ has l s = true)) ∧ St w0 w' F := by
  refine zAt (n := 25) func49 rfl rfl (zNl rfl) ?_
  refine zAe (fun K2 g8 => (zAa (zA5 rfl rfl (zAd (zAb (g8 _ _ (zAe (fun K4 g9 => (zAa (zA5 rfl rfl (zAd (zAb (g9 _ _ (zAe (fun K6 g6 => (zAw ?_))))))))))))))))
  refine zBs [5,6,7,8,9,10,11,12,13,14,15,16,17,18,19] [5] (fun k vs w => ∃ i : Nat, vs = [.int .i64 i] ∧ i ≤ l.length ∧ k = l.length - i ∧ has (l.take i) s = false ∧ St w0 w F) (l.length) ?_ ?_
  ·
   exact ⟨0, rfl, by omega, by omega, rfl, hs⟩
  intro k vs μ w9 hI K8 ga
  obtain ⟨i, rfl, hia, rfl, hpre, hs⟩ := hI
  refine zAe (fun gm gb => (zAe (fun gn g7 => (zAa (zAz rfl rfl (w_p (zAi (v := .slice _ _ _) rfl rfl) rfl (w_p (zA8 underlying58 rfl rfl) rfl (w_p (zBw rfl rfl rfl rfl) rfl ?_))))))))
  refine w_p (zAi (v := .bool _) rfl rfl) rfl (zBi (fun g0 => ?_) (fun g0 => ?_))
  ·
   try simp only [zS] at g0
   refine w_y rfl rfl rfl (zAi (v := .slice _ _ _) rfl rfl) rfl ?_
   refine w_y rfl rfl rfl (zA2 rfl rfl) rfl ?_
   have hi2 : i < l.length := by omega
   obtain ⟨ba, oa, rfl, hxa⟩ := sl_strs ha hi2
   refine w_y rfl rfl rfl (zA3 underlying58 sizeOf9 rfl rfl rfl rfl (i := _) rfl (by omega)) rfl ?_
   refine w_y rfl rfl rfl (zAj isAgg9 hs rfl rfl hxa) rfl ?_
   refine w_y rfl rfl rfl (zAi (v := .string _) rfl rfl) rfl ?_
   refine w_y rfl rfl rfl (y_strNe rfl rfl rfl rfl) rfl ?_
   refine w_p (zAx (v := .bool _) rfl rfl rfl rfl) rfl (zAd (zAb (g7 _ _ (zAu rfl rfl (fun g3 => ?_) (fun g3 => ?_)))))
   ·
    try simp only [zS] at g3
    refine zAs (zAb (gb _ _ (zAw ?_)))
    refine zAa (zAz rfl rfl (w_p (zBg rfl rfl rfl rfl (by omega) (by omega)) rfl (zBe rfl rfl (zAd (zAl (zAb (ga _ _ (nxI (l.length - (i + 1)) (by omega) ?_))))))))
    exact ⟨i + 1, rfl, by omega, rfl, notmem_take hpre (by omega) (by assumption), hs⟩
   try simp only [zS] at g3
   refine zBl (zAm (zAm (zA0 (zAb (g6 _ _ (zAe (fun gq gc => (zAe (fun gr gd => (zAa (zAz rfl rfl (w_p (zAi (v := .slice _ _ _) rfl rfl) rfl ?_))))))))))))
   refine w_p (zA8 underlying58 rfl rfl) rfl (w_p (zB6 rfl rfl rfl rfl) rfl (zAd (zAb (gd _ _ (zAu rfl rfl (fun g4 => ?_) (fun g4 => ?_))))))
   ·
    try simp only [zS] at g4
    refine zAe (fun gt gf => (zAa (zA5 rfl rfl (zAd (zAb (gf _ _ (zAy (zAg (zA1 (l := [.tmp 4]) (vs := [_]) rfl ⟨⟨rfl, (rfl : _ = Value.int _ _)⟩, trivial⟩ ?_)))))))))
    first
      | exact ⟨⟨-1, rfl, by have hil : i = l.length := (by omega); subst hil; rw [List.take_length] at hpre; simp [hpre]⟩, hs⟩
      | exact ⟨⟨(i : Int), rfl, ⟨fun _ => (by have hi3 : i < l.length := (by omega); have he : l[i] = s := (by assumption); exact List.any_eq_true.2 ⟨_, List.getElem_mem hi3, by simp [he]⟩), fun _ => by omega⟩⟩, hs⟩
      | (exfalso; omega)
   try simp only [zS] at g4
   refine zAs (zAb (gc _ _ (zAe (fun gu gg => (zAa (zAz rfl rfl (zBe rfl rfl (zAd (zAb (gg _ _ (zAy (zA1 (l := [.tmp 4]) (vs := [_]) rfl ⟨⟨rfl, (rfl : _ = Value.int _ _)⟩, trivial⟩ ?_))))))))))))
   first
     | exact ⟨⟨-1, rfl, by have hil : i = l.length := (by omega); subst hil; rw [List.take_length] at hpre; simp [hpre]⟩, hs⟩
     | exact ⟨⟨(i : Int), rfl, ⟨fun _ => (by have hi3 : i < l.length := (by omega); have he : l[i] = s := (by assumption); exact List.any_eq_true.2 ⟨_, List.getElem_mem hi3, by simp [he]⟩), fun _ => by omega⟩⟩, hs⟩
     | (exfalso; omega)
  try simp only [zS] at g0
  refine zAh rfl rfl rfl ?_
  refine zAh rfl rfl rfl ?_
  refine zAh rfl rfl rfl ?_
  refine zAh rfl rfl rfl ?_
  refine zAh rfl rfl rfl ?_
  refine zAh rfl rfl rfl ?_
  refine w_p (zA9 (v := _) rfl rfl rfl rfl) rfl (zAd (zAb (g7 _ _ (zBx rfl rfl ?_))))
  refine zBl (zAm (zAm (zA0 (zAb (g6 _ _ (zAe (fun gv gh => (zAe (fun gw gi => (zAa (zAz rfl rfl (w_p (zAi (v := .slice _ _ _) rfl rfl) rfl ?_))))))))))))
  refine w_p (zA8 underlying58 rfl rfl) rfl (w_p (zB6 rfl rfl rfl rfl) rfl (zAd (zAb (gi _ _ (zAu rfl rfl (fun g5 => ?_) (fun g5 => ?_))))))
  ·
   try simp only [zS] at g5
   refine zAe (fun gx gj => (zAa (zA5 rfl rfl (zAd (zAb (gj _ _ (zAy (zAg (zA1 (l := [.tmp 4]) (vs := [_]) rfl ⟨⟨rfl, (rfl : _ = Value.int _ _)⟩, trivial⟩ ?_)))))))))
   first
     | exact ⟨⟨-1, rfl, by have hil : i = l.length := (by omega); subst hil; rw [List.take_length] at hpre; simp [hpre]⟩, hs⟩
     | exact ⟨⟨(i : Int), rfl, ⟨fun _ => (by have hi3 : i < l.length := (by omega); have he : l[i] = s := (by assumption); exact List.any_eq_true.2 ⟨_, List.getElem_mem hi3, by simp [he]⟩), fun _ => by omega⟩⟩, hs⟩
     | (exfalso; omega)
  try simp only [zS] at g5
  refine zAs (zAb (gh _ _ (zAe (fun gy gk => (zAa (zAz rfl rfl (zBe rfl rfl (zAd (zAb (gk _ _ (zAy (zA1 (l := [.tmp 4]) (vs := [_]) rfl ⟨⟨rfl, (rfl : _ = Value.int _ _)⟩, trivial⟩ ?_))))))))))))
  first
    | exact ⟨⟨-1, rfl, by have hil : i = l.length := (by omega); subst hil; rw [List.take_length] at hpre; simp [hpre]⟩, hs⟩
    | exact ⟨⟨(i : Int), rfl, ⟨fun _ => (by have hi3 : i < l.length := (by omega); have he : l[i] = s := (by assumption); exact List.any_eq_true.2 ⟨_, List.getElem_mem hi3, by simp [he]⟩), fun _ => by omega⟩⟩, hs⟩
    | (exfalso; omega)

theorem nmBytes_snoc (l : List UInt8) (c : UInt8) : ∀ f, nmBytes f (l ++ [c]) = (nmBytes f l && nmByte (f && l.isEmpty) c) := by
  induction l with
  | nil => intro f; simp [nmBytes]
  | cons x l ih => intro f; simp only [List.cons_append, nmBytes, ih]; simp [Bool.and_assoc]
theorem zFk (s : ByteArray) (i : Nat) (h : i < s.size) : nmBytes true (s.data.toList.take (i + 1)) = (nmBytes true (s.data.toList.take i) && nmByte (decide (i = 0)) s[i]) := by
  rw [List.take_succ_eq_append_getElem (by simpa using h), nmBytes_snoc]
  have e : (true && (s.data.toList.take i).isEmpty) = decide (i = 0) := by
    rw [Bool.eq_iff_iff]
    cases i with
    | zero => simp
    | succ i =>
      have : s.data.toList ≠ [] := by intro e; simp at e; have h2 : s.size = 0 := by rw [ByteArray.size, e]; rfl
                                      omega
      simp [this]
  rw [e]; rfl
theorem bp (x y : Bool) (k : IntKind) (a b : Int) (h1 : x = y) (h2 : a = b) : [Value.bool x, Value.int k a] = [Value.bool y, Value.int k b] := by rw [h1, h2]
theorem zD4 (s : ByteArray) (i : Nat) (h : i < s.size) (x : Bool)
    (hx : x = ((decide (1 ≤ s.size) && decide (s.size ≤ 16) && nmBytes true (s.data.toList.take i)) && nmByte (decide (i = 0)) s[i])) : x = (decide (1 ≤ s.size) && decide (s.size ≤ 16) && nmBytes true (s.data.toList.take (i + 1))) := by
  rw [hx, zFk s i h, Bool.and_assoc]
theorem c50 {w0 w : World} {F : List (Nat × Obj)} (s : ByteArray) (hls : s.size ≤ 9223372036854775807) (hs : St w0 w F) :
  Con Tryz.prog 50 [.string s] w fun v w' => v = .bool (nmOk s) ∧ St w0 w' F := by
  refine zAt (n := 42) func50 rfl rfl (zNl rfl) ?_
  refine zAe (fun K2 gj => (zAa (zA5 rfl rfl (zAd (zAb (gj _ _ (zAe (fun K4 gk => (zAa (w_p (zAi (v := .string _) rfl rfl) rfl ?_))))))))))
  refine w_p (y_lenStr underlying9 rfl rfl) rfl (zAr zAc call14 rfl rfl rfl rfl (c14 _ _ _ hs) ?_)
  rintro _ w6 ⟨rfl, gm⟩
  refine w_p (zAo (v := .bool _) rfl rfl) rfl (zAd (zAb (gk _ _ (zAe (fun K9 gn => (zAe (fun gv gq => (zAa (zA5 rfl rfl (zAd (zAb (gq _ _ (zAw ?_)))))))))))))
  refine zBs [3,4,5,9,10,11,12,13,14,15,16,17,18,19,20,21,22,23,24,25,26,27,28,29,30,31,32,33,34,35,36,37,38,39,40] [3,4] (fun k vs w => ∃ i : Nat, vs = [.bool (decide (1 ≤ s.size) && decide (s.size ≤ 16) && nmBytes true (s.data.toList.take i)), .int .i64 i] ∧ i ≤ s.size ∧ k = s.size - i ∧ St w0 w F) (s.size) ?_ ?_
  ·
   exact ⟨0, bp _ _ _ _ _ (by rw [Bool.eq_iff_iff]; simp [out, nmBytes] <;> omega) rfl, by omega, by omega, gm⟩
  intro k vs μ gw hI gx g0
  obtain ⟨i, rfl, hia, rfl, hs⟩ := hI
  generalize hfine : (decide (1 ≤ s.size) && decide (s.size ≤ 16) && nmBytes true (s.data.toList.take i)) = fine
  refine zAe (fun gy gr => (zAe (fun gz gt => (zAa (zAz rfl rfl (w_p (zAi (v := .string _) rfl rfl) rfl (w_p (y_lenStr underlying9 rfl rfl) rfl (w_p (zBw rfl rfl rfl rfl) rfl ?_))))))))
  refine zAd (zAb (gt _ _ (zAu rfl rfl (fun g4 => ?_) (fun g4 => ?_))))
  ·
   try simp only [zS] at g4
   refine zAs (zAb (gr _ _ (zAe (fun gA g3 => (zAw ?_)))))
   refine zAe (fun gB g5 => ?_)
   have hi2 : i < s.size := by omega
   have hc0 : (0:Int) ≤ (s[i].toNat : Int) := by omega
   have hc1 : (s[i].toNat : Int) ≤ 255 := by have := s[i].toNat_lt; omega
   refine zAa (zAz rfl rfl (w_p (zD5 rfl rfl rfl rfl) rfl (w_p (zAi (v := .bool _) rfl rfl) rfl (zBi (fun g6 => ?_) (fun g6 => ?_)))))
   ·
    try simp only [zS] at g6
    refine w_y rfl rfl rfl (zAi (v := .string _) rfl rfl) rfl ?_
    refine w_y rfl rfl rfl (zA2 rfl rfl) rfl ?_
    refine w_y rfl rfl rfl (zH1 underlying9 rfl rfl rfl rfl (i := _) rfl (by omega)) rfl ?_
    refine w_y rfl rfl rfl (zB6 rfl rfl rfl rfl) rfl ?_
    refine w_y rfl rfl rfl (zAi (v := .bool _) rfl rfl) rfl ?_
    refine zBi (fun g7 => ?_) (fun g7 => ?_)
    ·
     try simp only [zS] at g7
     refine zAh rfl rfl rfl ?_
     refine zAh rfl rfl rfl ?_
     refine zAh rfl rfl rfl ?_
     refine zAh rfl rfl rfl ?_
     refine zAh rfl rfl rfl ?_
     refine w_y rfl rfl rfl (zAx (v := _) rfl rfl rfl rfl) rfl ?_
     refine w_p (zAx (v := .bool _) rfl rfl rfl rfl) rfl (w_p (zAo (v := .bool _) rfl rfl) rfl (zAd (zAb (g5 _ _ (zAa (w_p (zAi (v := .bool _) rfl rfl) rfl ?_))))))
     refine w_p (zAi (v := .bool _) rfl rfl) rfl (zBi (fun g8 => ?_) (fun g8 => ?_))
     ·
      try simp only [zS] at g8
      refine w_y rfl rfl rfl (zAi (v := .string _) rfl rfl) rfl ?_
      refine w_y rfl rfl rfl (zA2 rfl rfl) rfl ?_
      refine w_y rfl rfl rfl (zH1 underlying9 rfl rfl rfl rfl (i := _) rfl (by omega)) rfl ?_
      refine w_y rfl rfl rfl (y_u8int (by rw [underlying5]; rfl) underlying3 rfl rfl (by omega) (by omega)) rfl ?_
      refine zAr (zAq rfl rfl rfl) call14 rfl rfl rfl rfl (c14 _ _ _ hs) ?_
      rintro _ gC ⟨rfl, gf⟩
      refine w_y rfl rfl rfl (zAi (v := .bool _) rfl rfl) rfl ?_
      refine zBi (fun g9 => ?_) (fun g9 => ?_)
      ·
       try simp only [zS] at g9
       refine zAh rfl rfl rfl ?_
       refine w_y rfl rfl rfl (zAx (v := _) rfl rfl rfl rfl) rfl ?_
       refine w_p (zAx (v := .bool _) rfl rfl rfl rfl) rfl (w_p (zAo (v := .bool _) rfl rfl) rfl (zAd (zAl (zAb (g3 _ _ (zAa (zAz rfl rfl (w_p (zBg rfl rfl rfl rfl (by omega) (by omega)) rfl ?_))))))))
       refine zBe rfl rfl (zAd (zAb (g0 _ _ (nxI (s.size - (i + 1)) (by omega) ?_))))
       exact ⟨i + 1, bp _ _ _ _ _ (zD4 s i (by omega) _ (by rw [hfine, Bool.eq_iff_iff]; simp only [*]; simp [nmByte, out] <;> omega)) rfl, by omega, rfl, gf⟩
      try simp only [zS] at g9
      refine w_y rfl rfl rfl (zAi (v := .bool _) rfl rfl) rfl ?_
      refine w_y rfl rfl rfl (zA9 (v := .bool _) rfl rfl rfl rfl) rfl ?_
      refine w_p (zAx (v := .bool _) rfl rfl rfl rfl) rfl (w_p (zAo (v := .bool _) rfl rfl) rfl (zAd (zAl (zAb (g3 _ _ (zAa (zAz rfl rfl (w_p (zBg rfl rfl rfl rfl (by omega) (by omega)) rfl ?_))))))))
      refine zBe rfl rfl (zAd (zAb (g0 _ _ (nxI (s.size - (i + 1)) (by omega) ?_))))
      exact ⟨i + 1, bp _ _ _ _ _ (zD4 s i (by omega) _ (by rw [hfine, Bool.eq_iff_iff]; simp only [*]; simp [nmByte, out] <;> omega)) rfl, by omega, rfl, gf⟩
     try simp only [zS] at g8
     refine zAh rfl rfl rfl ?_
     refine zAh rfl rfl rfl ?_
     refine zAh rfl rfl rfl ?_
     refine zAh rfl rfl rfl ?_
     refine zAh rfl rfl rfl ?_
     refine zAh rfl rfl rfl ?_
     refine zBa rfl rfl rfl ?_
     refine zAh rfl rfl rfl ?_
     refine w_p (zA9 (v := _) rfl rfl rfl rfl) rfl (w_p (zAo (v := .bool _) rfl rfl) rfl (zAd (zAl (zAb (g3 _ _ (zAa (zAz rfl rfl (w_p (zBg rfl rfl rfl rfl (by omega) (by omega)) rfl ?_))))))))
     refine zBe rfl rfl (zAd (zAb (g0 _ _ (nxI (s.size - (i + 1)) (by omega) ?_))))
     exact ⟨i + 1, bp _ _ _ _ _ (zD4 s i (by omega) _ (by rw [hfine, Bool.eq_iff_iff]; simp only [*]; simp [nmByte, out] <;> omega)) rfl, by omega, rfl, hs⟩
    try simp only [zS] at g7
    refine w_y rfl rfl rfl (zAi (v := .string _) rfl rfl) rfl ?_
    refine w_y rfl rfl rfl (zA2 rfl rfl) rfl ?_
    refine w_y rfl rfl rfl (zH1 underlying9 rfl rfl rfl rfl (i := _) rfl (by omega)) rfl ?_
    refine w_y rfl rfl rfl (y_u8int (by rw [underlying5]; rfl) underlying3 rfl rfl (by omega) (by omega)) rfl ?_
    refine zAr (zAq rfl rfl rfl) call14 rfl rfl rfl rfl (c14 _ _ _ hs) ?_
    rintro _ gE ⟨rfl, gg⟩
    refine w_y rfl rfl rfl (zA9 (v := .bool _) rfl rfl rfl rfl) rfl ?_
    refine w_p (zAx (v := .bool _) rfl rfl rfl rfl) rfl (w_p (zAo (v := .bool _) rfl rfl) rfl (zAd (zAb (g5 _ _ (zAa (w_p (zAi (v := .bool _) rfl rfl) rfl ?_))))))
    refine w_p (zAi (v := .bool _) rfl rfl) rfl (zBi (fun ga => ?_) (fun ga => ?_))
    ·
     try simp only [zS] at ga
     refine w_y rfl rfl rfl (zAi (v := .string _) rfl rfl) rfl ?_
     refine w_y rfl rfl rfl (zA2 rfl rfl) rfl ?_
     refine w_y rfl rfl rfl (zH1 underlying9 rfl rfl rfl rfl (i := _) rfl (by omega)) rfl ?_
     refine w_y rfl rfl rfl (y_u8int (by rw [underlying5]; rfl) underlying3 rfl rfl (by omega) (by omega)) rfl ?_
     refine zAr (zAq rfl rfl rfl) call14 rfl rfl rfl rfl (c14 _ _ _ gg) ?_
     rintro _ gF ⟨rfl, gh⟩
     refine w_y rfl rfl rfl (zAi (v := .bool _) rfl rfl) rfl ?_
     refine zBi (fun gb => ?_) (fun gb => ?_)
     ·
      try simp only [zS] at gb
      refine zAh rfl rfl rfl ?_
      refine w_y rfl rfl rfl (zAx (v := _) rfl rfl rfl rfl) rfl ?_
      refine w_p (zAx (v := .bool _) rfl rfl rfl rfl) rfl (w_p (zAo (v := .bool _) rfl rfl) rfl (zAd (zAl (zAb (g3 _ _ (zAa (zAz rfl rfl (w_p (zBg rfl rfl rfl rfl (by omega) (by omega)) rfl ?_))))))))
      refine zBe rfl rfl (zAd (zAb (g0 _ _ (nxI (s.size - (i + 1)) (by omega) ?_))))
      exact ⟨i + 1, bp _ _ _ _ _ (zD4 s i (by omega) _ (by rw [hfine, Bool.eq_iff_iff]; simp only [*]; simp [nmByte, out] <;> omega)) rfl, by omega, rfl, gh⟩
     try simp only [zS] at gb
     refine w_y rfl rfl rfl (zAi (v := .bool _) rfl rfl) rfl ?_
     refine w_y rfl rfl rfl (zA9 (v := .bool _) rfl rfl rfl rfl) rfl ?_
     refine w_p (zAx (v := .bool _) rfl rfl rfl rfl) rfl (w_p (zAo (v := .bool _) rfl rfl) rfl (zAd (zAl (zAb (g3 _ _ (zAa (zAz rfl rfl (w_p (zBg rfl rfl rfl rfl (by omega) (by omega)) rfl ?_))))))))
     refine zBe rfl rfl (zAd (zAb (g0 _ _ (nxI (s.size - (i + 1)) (by omega) ?_))))
     exact ⟨i + 1, bp _ _ _ _ _ (zD4 s i (by omega) _ (by rw [hfine, Bool.eq_iff_iff]; simp only [*]; simp [nmByte, out] <;> omega)) rfl, by omega, rfl, gh⟩
    try simp only [zS] at ga
    refine zAh rfl rfl rfl ?_
    refine zAh rfl rfl rfl ?_
    refine zAh rfl rfl rfl ?_
    refine zAh rfl rfl rfl ?_
    refine zAh rfl rfl rfl ?_
    refine zAh rfl rfl rfl ?_
    refine zBa rfl rfl rfl ?_
    refine zAh rfl rfl rfl ?_
    refine w_p (zA9 (v := _) rfl rfl rfl rfl) rfl (w_p (zAo (v := .bool _) rfl rfl) rfl (zAd (zAl (zAb (g3 _ _ (zAa (zAz rfl rfl (w_p (zBg rfl rfl rfl rfl (by omega) (by omega)) rfl ?_))))))))
    refine zBe rfl rfl (zAd (zAb (g0 _ _ (nxI (s.size - (i + 1)) (by omega) ?_))))
    exact ⟨i + 1, bp _ _ _ _ _ (zD4 s i (by omega) _ (by rw [hfine, Bool.eq_iff_iff]; simp only [*]; simp [nmByte, out] <;> omega)) rfl, by omega, rfl, gg⟩
   try simp only [zS] at g6
   refine zAh rfl rfl rfl ?_
   refine zAh rfl rfl rfl ?_
   refine zAh rfl rfl rfl ?_
   refine zAh rfl rfl rfl ?_
   refine zAh rfl rfl rfl ?_
   refine zBa rfl rfl rfl ?_
   refine zBa rfl rfl rfl ?_
   refine zBa rfl rfl rfl ?_
   refine zBa rfl rfl rfl ?_
   refine zBa rfl rfl rfl ?_
   refine zAh rfl rfl rfl ?_
   refine w_p (zA9 (v := _) rfl rfl rfl rfl) rfl (w_p (zAo (v := .bool _) rfl rfl) rfl (zAd (zAb (g5 _ _ (zAa (w_p (zAi (v := .bool _) rfl rfl) rfl ?_))))))
   refine w_p (zAi (v := .bool _) rfl rfl) rfl (zBi (fun gc => ?_) (fun gc => ?_))
   ·
    try simp only [zS] at gc
    refine w_y rfl rfl rfl (zAi (v := .string _) rfl rfl) rfl ?_
    refine w_y rfl rfl rfl (zA2 rfl rfl) rfl ?_
    refine w_y rfl rfl rfl (zH1 underlying9 rfl rfl rfl rfl (i := _) rfl (by omega)) rfl ?_
    refine w_y rfl rfl rfl (y_u8int (by rw [underlying5]; rfl) underlying3 rfl rfl (by omega) (by omega)) rfl ?_
    refine zAr (zAq rfl rfl rfl) call14 rfl rfl rfl rfl (c14 _ _ _ hs) ?_
    rintro _ gG ⟨rfl, gi⟩
    refine w_y rfl rfl rfl (zAi (v := .bool _) rfl rfl) rfl ?_
    refine zBi (fun gd => ?_) (fun gd => ?_)
    ·
     try simp only [zS] at gd
     refine zAh rfl rfl rfl ?_
     refine w_y rfl rfl rfl (zAx (v := _) rfl rfl rfl rfl) rfl ?_
     refine w_p (zAx (v := .bool _) rfl rfl rfl rfl) rfl (w_p (zAo (v := .bool _) rfl rfl) rfl (zAd (zAl (zAb (g3 _ _ (zAa (zAz rfl rfl (w_p (zBg rfl rfl rfl rfl (by omega) (by omega)) rfl ?_))))))))
     refine zBe rfl rfl (zAd (zAb (g0 _ _ (nxI (s.size - (i + 1)) (by omega) ?_))))
     exact ⟨i + 1, bp _ _ _ _ _ (zD4 s i (by omega) _ (by rw [hfine, Bool.eq_iff_iff]; simp only [*]; simp [nmByte, out] <;> omega)) rfl, by omega, rfl, gi⟩
    try simp only [zS] at gd
    refine w_y rfl rfl rfl (zAi (v := .bool _) rfl rfl) rfl ?_
    refine w_y rfl rfl rfl (zA9 (v := .bool _) rfl rfl rfl rfl) rfl ?_
    refine w_p (zAx (v := .bool _) rfl rfl rfl rfl) rfl (w_p (zAo (v := .bool _) rfl rfl) rfl (zAd (zAl (zAb (g3 _ _ (zAa (zAz rfl rfl (w_p (zBg rfl rfl rfl rfl (by omega) (by omega)) rfl ?_))))))))
    refine zBe rfl rfl (zAd (zAb (g0 _ _ (nxI (s.size - (i + 1)) (by omega) ?_))))
    exact ⟨i + 1, bp _ _ _ _ _ (zD4 s i (by omega) _ (by rw [hfine, Bool.eq_iff_iff]; simp only [*]; simp [nmByte, out] <;> omega)) rfl, by omega, rfl, gi⟩
   try simp only [zS] at gc
   refine zAh rfl rfl rfl ?_
   refine zAh rfl rfl rfl ?_
   refine zAh rfl rfl rfl ?_
   refine zAh rfl rfl rfl ?_
   refine zAh rfl rfl rfl ?_
   refine zAh rfl rfl rfl ?_
   refine zBa rfl rfl rfl ?_
   refine zAh rfl rfl rfl ?_
   refine w_p (zA9 (v := _) rfl rfl rfl rfl) rfl (w_p (zAo (v := .bool _) rfl rfl) rfl (zAd (zAl (zAb (g3 _ _ (zAa (zAz rfl rfl (w_p (zBg rfl rfl rfl rfl (by omega) (by omega)) rfl ?_))))))))
   refine zBe rfl rfl (zAd (zAb (g0 _ _ (nxI (s.size - (i + 1)) (by omega) ?_))))
   exact ⟨i + 1, bp _ _ _ _ _ (zD4 s i (by omega) _ (by rw [hfine, Bool.eq_iff_iff]; simp only [*]; simp [nmByte, out] <;> omega)) rfl, by omega, rfl, hs⟩
  try simp only [zS] at g4
  refine zBl (zAm (zAm (zA0 (zAb (gn _ _ (zAe (fun gH gu => (zAa (w_p (zAi (v := .bool _) rfl rfl) rfl (w_p (zAo (v := .bool _) rfl rfl) rfl ?_))))))))))
  refine zAd (zAb (gu _ _ (zAy (zA1 (l := [.tmp 2]) (vs := [_]) rfl ⟨⟨rfl, (rfl : _ = Value.bool _)⟩, trivial⟩ ?_))))
  exact ⟨congrArg Value.bool (by have hil : i = s.size := (by omega); subst hil; rw [← hfine]; unfold nmOk; rw [List.take_of_length_le (by simp)]), hs⟩

theorem c15 {w0 w : World} {F : List (Nat × Obj)} (s : ByteArray) (aa : Option Addr) (l : List ByteArray) (ca : Nat) (hls : s.size ≤ 9223372036854775807) (hla : l.length ≤ 9223372036854775807) (ha : Sl w0 F aa 1 (l.map fun x => [Value.string x])) (hs : St w0 w F) :
  Con Tryz.prog 15 [.string s, .slice aa l.length ca] w fun v w' => v = .int .i64 (if nmOk s = false then 6 else if has l s then 5 else 0) ∧ St w0 w' F := by
  refine zAt (n := 14) func15 rfl rfl (zNl rfl) ?_
  refine zAe (fun K2 gb => (zAa (zA5 rfl rfl (zAd (zAb (gb _ _ (zAe (fun K4 gc => (zAa (zA5 rfl rfl (zAd (zAb (gc _ _ (zAe (fun K6 g5 => (zAe (fun K8 gd => (zAa (w_p (zAi (v := .slice _ _ _) rfl rfl) rfl ?_)))))))))))))))))))
  refine w_p (zAi (v := .string _) rfl rfl) rfl (zAr zAc call49 rfl rfl rfl rfl (c49 _ _ _ _ (by omega) (by assumption) hs) ?_)
  rintro _ gm ⟨⟨z, rfl, hz⟩, g6⟩
  refine w_p (zKa rfl rfl rfl rfl) rfl (zAd (zAb (gd _ _ (zAu rfl rfl (fun g0 => ?_) (fun g0 => ?_)))))
  ·
   try simp only [zS] at g0
   refine zAa (zA5 rfl rfl (zAd (zAb (g5 _ _ (zAe (fun gn g7 => (zAe (fun gq gf => (zAa (w_p (zAi (v := .string _) rfl rfl) rfl ?_))))))))))
   refine zAr zAc call50 rfl rfl rfl rfl (c50 _ (by omega) g6) ?_
   rintro _ gr ⟨rfl, g8⟩
   refine w_p (zDz rfl rfl) rfl (zAd (zAb (gf _ _ (zAu rfl rfl (fun g3 => ?_) (fun g3 => ?_)))))
   ·
    try simp only [zS] at g3
    refine zAa (zA5 rfl rfl (zAd (zAb (g7 _ _ (zAe (fun gt gg => (zAa (zAz rfl rfl (zBe rfl rfl (zAd (zAb (gg _ _ (zAy (zA1 (l := [.tmp 4]) (vs := [_]) rfl ⟨⟨rfl, (rfl : _ = Value.int _ _)⟩, trivial⟩ ?_))))))))))))))
    exact ⟨congrArg (Value.int .i64) (by have hz2 : has l s = decide (0 ≤ z) := (by rw [Bool.eq_iff_iff]; simp [hz]); rw [hz2]; clear hz hz2; simp [*] <;> (repeat' split) <;> omega), g8⟩
   try simp only [zS] at g3
   refine zAs (zAb (g7 _ _ (zAe (fun gu gh => (zAa (zAz rfl rfl (zBe rfl rfl (zAd (zAb (gh _ _ (zAy (zA1 (l := [.tmp 4]) (vs := [_]) rfl ⟨⟨rfl, (rfl : _ = Value.int _ _)⟩, trivial⟩ ?_))))))))))))
   exact ⟨congrArg (Value.int .i64) (by have hz2 : has l s = decide (0 ≤ z) := (by rw [Bool.eq_iff_iff]; simp [hz]); rw [hz2]; clear hz hz2; simp [*] <;> (repeat' split) <;> omega), g8⟩
  try simp only [zS] at g0
  refine zAs (zAb (g5 _ _ (zAe (fun gv g9 => (zAe (fun gw gi => (zAa (w_p (zAi (v := .string _) rfl rfl) rfl (zAr zAc call50 rfl rfl rfl rfl (c50 _ (by omega) g6) ?_)))))))))
  rintro _ gx ⟨rfl, ga⟩
  refine w_p (zDz rfl rfl) rfl (zAd (zAb (gi _ _ (zAu rfl rfl (fun g4 => ?_) (fun g4 => ?_)))))
  ·
   try simp only [zS] at g4
   refine zAa (zA5 rfl rfl (zAd (zAb (g9 _ _ (zAe (fun gy gj => (zAa (zAz rfl rfl (zBe rfl rfl (zAd (zAb (gj _ _ (zAy (zA1 (l := [.tmp 4]) (vs := [_]) rfl ⟨⟨rfl, (rfl : _ = Value.int _ _)⟩, trivial⟩ ?_))))))))))))))
   exact ⟨congrArg (Value.int .i64) (by have hz2 : has l s = decide (0 ≤ z) := (by rw [Bool.eq_iff_iff]; simp [hz]); rw [hz2]; clear hz hz2; simp [*] <;> (repeat' split) <;> omega), ga⟩
  try simp only [zS] at g4
  refine zAs (zAb (g9 _ _ (zAe (fun gz gk => (zAa (zAz rfl rfl (zBe rfl rfl (zAd (zAb (gk _ _ (zAy (zA1 (l := [.tmp 4]) (vs := [_]) rfl ⟨⟨rfl, (rfl : _ = Value.int _ _)⟩, trivial⟩ ?_))))))))))))
  exact ⟨congrArg (Value.int .i64) (by have hz2 : has l s = decide (0 ≤ z) := (by rw [Bool.eq_iff_iff]; simp [hz]); rw [hz2]; clear hz hz2; simp [*] <;> (repeat' split) <;> omega), ga⟩

theorem any_take {l : List Int} {p : Int → Bool} {i : Nat} (h : (l.take i).any p = false) (hi : i < l.length) (hp : p l[i] = false) : (l.take (i + 1)).any p = false := by
  rw [List.take_succ_eq_append_getElem hi, List.any_append, h]; simp [hp]
theorem c105 {w0 w : World} {F : List (Nat × Obj)} (aa : Option Addr) (l : List Int) (ca : Nat) (hla : l.length ≤ 9223372036854775807) (ha : Sl w0 F aa 1 (l.map fun x => [Value.int .i64 x])) {fk : FuncId} (hC : CF Tryz.prog fk) (first captured : Array Value) (p : Int → Bool)
    (hp : ∀ x ∈ l, ∀ w, St w0 w F → Con Tryz.prog fk (first.toList ++ ([.int .i64 x] ++ captured.toList)) w fun v w' => v = .bool (p x) ∧ St w0 w' F) (hs : St w0 w F) :
  Con Tryz.prog 105 [.slice aa l.length ca, .func (.func fk) first captured] w fun v w' => (∃ z, v = .int .i64 z ∧ decide (0 ≤ z) = l.any p) ∧ St w0 w' F := by
  refine zAt (n := 19) func105 rfl rfl (zNl rfl) ?_
  refine zAe (fun K2 g5 => (zAa (zA5 rfl rfl (zAd (zAb (g5 _ _ (zAe (fun K4 g6 => (zAe (fun K6 g7 => (zAa (w_p (zAi (v := .slice _ _ _) rfl rfl) rfl ?_))))))))))))
  refine w_p (zA8 underlying43 rfl rfl) rfl (w_p (zAi (v := _) rfl rfl) rfl (zAd (zAb (g7 _ _ (zAw ?_)))))
  refine zBs [4,5,8,9,10,11,12,13,14,15,16,17,18] [8] (fun k vs w => ∃ i : Nat, vs = [.int .i64 i] ∧ i ≤ l.length ∧ k = l.length - i ∧ (l.take i).any p = false ∧ St w0 w F) (l.length) ?_ ?_
  ·
   exact ⟨0, rfl, by omega, by omega, by simp, hs⟩
  intro k vs μ w9 hI K8 g8
  obtain ⟨i, rfl, hia, rfl, hpre, hs⟩ := hI
  refine zAe (fun gh g9 => (zAa (w_p (zBw rfl rfl rfl rfl) rfl (zAd (zAb (g9 _ _ (zAe (fun gi ga => (zAu rfl rfl (fun g0 => ?_) (fun g0 => ?_))))))))))
  ·
   try simp only [zS] at g0
   refine zAs (zAb (ga _ _ (zAe (fun gj gb => (zAw ?_)))))
   refine zAe (fun gk gc => (zAa (zAz rfl rfl (zBe rfl rfl (zAd (zAb (gc _ _ (zAe (fun gm gd => ?_)))))))))
   have hi2 : i < l.length := by omega
   obtain ⟨ba, oa, rfl, hxa⟩ := zC9 ha hi2
   refine zAa (w_p (zAi (v := .func _ _ _) rfl rfl) rfl (w_p (zAi (v := .slice _ _ _) rfl rfl) rfl (zAz rfl rfl (w_p (zA3 underlying43 sizeOf3 rfl rfl rfl rfl (i := _) rfl (by omega)) rfl (w_p (zAj isAgg3 hs rfl rfl hxa) rfl ?_)))))
   refine zAr zAc hC rfl rfl rfl rfl (hp _ (List.getElem_mem hi2) _ hs) ?_
   rintro _ gn ⟨rfl, g3⟩
   refine zAd (zAb (gd _ _ (zAu rfl rfl (fun g4 => ?_) (fun g4 => ?_))))
   ·
    try simp only [zS] at g4
    refine zAe (fun gq gf => (zAa (zAz rfl rfl (zBe rfl rfl (zAd (zAb (gf _ _ (zAy (zAv (zAg (zAg (zAv (zAg (zA1 (l := [.tmp 4]) (vs := [_]) rfl ⟨⟨rfl, (rfl : _ = Value.int _ _)⟩, trivial⟩ ?_))))))))))))))
    first
      | exact ⟨⟨-1, rfl, by have hil : i = l.length := (by omega); subst hil; rw [List.take_length] at hpre; rw [hpre]; rfl⟩, g3⟩
      | exact ⟨⟨(i : Int), rfl, by rw [Bool.eq_iff_iff]; simp only [decide_eq_true_eq, List.any_eq_true]; exact ⟨fun _ => ⟨_, List.getElem_mem hi2, by assumption⟩, fun _ => by omega⟩⟩, g3⟩
   try simp only [zS] at g4
   refine zAs (zAl (zAb (gb _ _ (zAa (w_p (zBg rfl rfl rfl rfl (by omega) (by omega)) rfl (zAz rfl rfl (zAd (zAb (g8 _ _ (nxI (l.length - (i + 1)) (by omega) ?_))))))))))
   exact ⟨i + 1, rfl, by omega, rfl, any_take hpre (by omega) (by assumption), g3⟩
  try simp only [zS] at g0
  refine zBl (zAm (zAm (zA0 (zAb (g6 _ _ (zAe (fun gr gg => (zAa (zA5 rfl rfl (zAd (zAb (gg _ _ (zAy (zA1 (l := [.tmp 4]) (vs := [_]) rfl ⟨⟨rfl, (rfl : _ = Value.int _ _)⟩, trivial⟩ ?_))))))))))))))
  first
    | exact ⟨⟨-1, rfl, by have hil : i = l.length := (by omega); subst hil; rw [List.take_length] at hpre; rw [hpre]; rfl⟩, hs⟩
    | exact ⟨⟨(i : Int), rfl, by rw [Bool.eq_iff_iff]; simp only [decide_eq_true_eq, List.any_eq_true]; exact ⟨fun _ => ⟨_, List.getElem_mem hi2, by assumption⟩, fun _ => by omega⟩⟩, hs⟩

theorem c86 {w0 w : World} {F : List (Nat × Obj)} (aa : Option Addr) (l : List Int) (ca : Nat) (hla : l.length ≤ 9223372036854775807) (ha : Sl w0 F aa 1 (l.map fun x => [Value.int .i64 x])) {fk : FuncId} (hC : CF Tryz.prog fk) (first captured : Array Value) (p : Int → Bool)
    (hp : ∀ x ∈ l, ∀ w, St w0 w F → Con Tryz.prog fk (first.toList ++ ([.int .i64 x] ++ captured.toList)) w fun v w' => v = .bool (p x) ∧ St w0 w' F) (hs : St w0 w F) :
  Con Tryz.prog 86 [.slice aa l.length ca, .func (.func fk) first captured] w fun v w' => v = .bool (l.any p) ∧ St w0 w' F := by
  refine zAt (n := 9) func86 rfl rfl (zNl rfl) ?_
  refine zAe (fun K2 g0 => (zAa (zA5 rfl rfl (zAd (zAb (g0 _ _ (zAe (fun K4 g3 => (zAa (w_p (zAi (v := .slice _ _ _) rfl rfl) rfl ?_))))))))))
  refine w_p (zAi (v := .func _ _ _) rfl rfl) rfl (zAr zAc call105 rfl rfl rfl rfl (c105 _ _ _ hla ha hC _ _ p hp hs) ?_)
  rintro _ w6 ⟨⟨z, rfl, hz⟩, g4⟩
  refine w_p (zKa rfl rfl rfl rfl) rfl (w_p (zAo (v := .bool _) rfl rfl) rfl (zAd (zAb (g3 _ _ (zAy (zA1 (l := [.tmp 4]) (vs := [_]) rfl ⟨⟨rfl, (rfl : _ = Value.bool _)⟩, trivial⟩ ?_))))))
  exact ⟨congrArg Value.bool hz, g4⟩

theorem c87 {w0 w : World} {F : List (Nat × Obj)} (n lo hi : Int) (b1 b2 : Nat) (h1 : Ats w0 F b1 0 [.int .i64 lo]) (h2 : Ats w0 F b2 0 [.int .i64 hi]) (hs : St w0 w F) :
  Con Tryz.prog 87 [.int .i64 n, .pointer (some ⟨b1,0, none⟩), .pointer (some ⟨b2,0, none⟩)] w fun v w' => v = .bool (out lo hi n) ∧ St w0 w' F := by
  refine zAt (n := 13) func87 rfl rfl (zNl rfl) ?_
  refine zAe (fun K2 g3 => (zAa (zA5 rfl rfl (zAd (zAb (g3 _ _ (zAe (fun K4 g0 => (zAa (zAz rfl rfl (w_p (zAj isAgg3 hs rfl rfl h1) rfl ?_)))))))))))
  refine w_p (zBw rfl rfl rfl rfl) rfl (w_p (zAi (v := .bool _) rfl rfl) rfl (zBi (fun h5 => ?_) (fun h5 => ?_)))
  ·
   try simp only [zS] at h5
   refine zAh rfl rfl rfl ?_
   refine zAh rfl rfl rfl ?_
   refine zAh rfl rfl rfl ?_
   refine w_p (zAx (v := _) rfl rfl rfl rfl) rfl (w_p (zAo (v := .bool _) rfl rfl) rfl (zAd (zAb (g0 _ _ (zAy (zA1 (l := [.tmp 4]) (vs := [_]) rfl ⟨⟨rfl, (rfl : _ = Value.bool _)⟩, trivial⟩ ?_))))))
   exact ⟨congrArg Value.bool (by rw [Bool.eq_iff_iff]; simp [out, *] <;> omega), hs⟩
  try simp only [zS] at h5
  refine w_y rfl rfl rfl (zA2 rfl rfl) rfl ?_
  refine w_y rfl rfl rfl (zAj isAgg3 hs rfl rfl h2) rfl ?_
  refine w_y rfl rfl rfl (zD5 rfl rfl rfl rfl) rfl ?_
  refine w_p (zA9 (v := .bool _) rfl rfl rfl rfl) rfl (w_p (zAo (v := .bool _) rfl rfl) rfl (zAd (zAb (g0 _ _ (zAy (zA1 (l := [.tmp 4]) (vs := [_]) rfl ⟨⟨rfl, (rfl : _ = Value.bool _)⟩, trivial⟩ ?_))))))
  exact ⟨congrArg Value.bool (by rw [Bool.eq_iff_iff]; simp [out, *] <;> omega), hs⟩

theorem c57 {w0 w : World} {F : List (Nat × Obj)} (lo hi : Int) (aa : Option Addr) (l : List Int) (ca : Nat) (hla : l.length ≤ 9223372036854775807) (ha : Sl w0 F aa 1 (l.map fun x => [Value.int .i64 x])) (hs : St w0 w F) :
  Con Tryz.prog 57 [.int .i64 lo, .int .i64 hi, .slice aa l.length ca] w fun v w' => v = .bool (l.any (out lo hi)) ∧ St w0 w' F := by
  refine zAt (n := 10) func57 rfl rfl (zNl rfl) ?_
  refine zAe (fun K2 g0 => (zAa (zCa (v := .int _ _) (cs := [_]) zAc rfl rfl rfl hs (fun b3 w4 g3 => ?_))))
  refine zCa (v := .int _ _) (cs := [_]) zAc rfl rfl rfl g3 (fun b6 w7 g4 => ?_)
  refine zA5 rfl rfl (zAd (zAb (g0 _ _ (zAe (fun g7 g5 => (zAa (w_p (zAi (v := .slice _ _ _) rfl rfl) rfl (w_p (zCc (fv := []) (cv := [_,_]) rfl rfl rfl rfl) rfl ?_))))))))
  refine zAr zAc call86 rfl rfl rfl rfl (c86 _ _ _ hla ha.cons.cons call87 _ _ (out lo hi) (fun x _ w hs => c87 _ _ _ _ _ (zAk (i := 1) (vs := [_]) rfl rfl) (zAk (i := 0) (vs := [_]) rfl rfl) hs) g4) ?_
  rintro _ g8 ⟨rfl, g6⟩
  refine w_p (zAo (v := .bool _) rfl rfl) rfl (zAd (zAb (g5 _ _ (zAy (zA1 (l := [.tmp 6]) (vs := [_]) rfl ⟨⟨rfl, (rfl : _ = Value.bool _)⟩, trivial⟩ ?_)))))
  exact ⟨rfl, g6.tail.tail⟩

theorem c104 {w0 w : World} {F : List (Nat × Obj)} (n lo hi : Int) (b1 b2 : Nat) (h1 : Ats w0 F b1 0 [.int .i64 lo]) (h2 : Ats w0 F b2 0 [.int .i64 hi]) (hs : St w0 w F) :
  Con Tryz.prog 104 [.int .i64 n, .pointer (some ⟨b1,0, none⟩), .pointer (some ⟨b2,0, none⟩)] w fun v w' => v = .bool (out lo hi n) ∧ St w0 w' F := by
  refine zAt (n := 13) func104 rfl rfl (zNl rfl) ?_
  refine zAe (fun K2 g3 => (zAa (zA5 rfl rfl (zAd (zAb (g3 _ _ (zAe (fun K4 g0 => (zAa (zAz rfl rfl (w_p (zAj isAgg3 hs rfl rfl h1) rfl ?_)))))))))))
  refine w_p (zBw rfl rfl rfl rfl) rfl (w_p (zAi (v := .bool _) rfl rfl) rfl (zBi (fun h5 => ?_) (fun h5 => ?_)))
  ·
   try simp only [zS] at h5
   refine zAh rfl rfl rfl ?_
   refine zAh rfl rfl rfl ?_
   refine zAh rfl rfl rfl ?_
   refine w_p (zAx (v := _) rfl rfl rfl rfl) rfl (w_p (zAo (v := .bool _) rfl rfl) rfl (zAd (zAb (g0 _ _ (zAy (zA1 (l := [.tmp 4]) (vs := [_]) rfl ⟨⟨rfl, (rfl : _ = Value.bool _)⟩, trivial⟩ ?_))))))
   exact ⟨congrArg Value.bool (by rw [Bool.eq_iff_iff]; simp [out, *] <;> omega), hs⟩
  try simp only [zS] at h5
  refine w_y rfl rfl rfl (zA2 rfl rfl) rfl ?_
  refine w_y rfl rfl rfl (zAj isAgg3 hs rfl rfl h2) rfl ?_
  refine w_y rfl rfl rfl (zD5 rfl rfl rfl rfl) rfl ?_
  refine w_p (zA9 (v := .bool _) rfl rfl rfl rfl) rfl (w_p (zAo (v := .bool _) rfl rfl) rfl (zAd (zAb (g0 _ _ (zAy (zA1 (l := [.tmp 4]) (vs := [_]) rfl ⟨⟨rfl, (rfl : _ = Value.bool _)⟩, trivial⟩ ?_))))))
  exact ⟨congrArg Value.bool (by rw [Bool.eq_iff_iff]; simp [out, *] <;> omega), hs⟩

theorem c81 {w0 w : World} {F : List (Nat × Obj)} (lo hi : Int) (aa : Option Addr) (l : List Int) (ca : Nat) (hla : l.length ≤ 9223372036854775807) (ha : Sl w0 F aa 1 (l.map fun x => [Value.int .i64 x])) (hs : St w0 w F) :
  Con Tryz.prog 81 [.int .i64 lo, .int .i64 hi, .slice aa l.length ca] w fun v w' => v = .bool (l.any (out lo hi)) ∧ St w0 w' F := by
  refine zAt (n := 10) func81 rfl rfl (zNl rfl) ?_
  refine zAe (fun K2 g0 => (zAa (zCa (v := .int _ _) (cs := [_]) zAc rfl rfl rfl hs (fun b3 w4 g3 => ?_))))
  refine zCa (v := .int _ _) (cs := [_]) zAc rfl rfl rfl g3 (fun b6 w7 g4 => ?_)
  refine zA5 rfl rfl (zAd (zAb (g0 _ _ (zAe (fun g7 g5 => (zAa (w_p (zAi (v := .slice _ _ _) rfl rfl) rfl (w_p (zCc (fv := []) (cv := [_,_]) rfl rfl rfl rfl) rfl ?_))))))))
  refine zAr zAc call86 rfl rfl rfl rfl (c86 _ _ _ hla ha.cons.cons call104 _ _ (out lo hi) (fun x _ w hs => c104 _ _ _ _ _ (zAk (i := 1) (vs := [_]) rfl rfl) (zAk (i := 0) (vs := [_]) rfl rfl) hs) g4) ?_
  rintro _ g8 ⟨rfl, g6⟩
  refine w_p (zAo (v := .bool _) rfl rfl) rfl (zAd (zAb (g5 _ _ (zAy (zA1 (l := [.tmp 6]) (vs := [_]) rfl ⟨⟨rfl, (rfl : _ = Value.bool _)⟩, trivial⟩ ?_)))))
  exact ⟨rfl, g6.tail.tail⟩

end Go.Proofs
set_option maxRecDepth 20000
namespace Go.Proofs
open Go.Proofs.Tryz
open Go.Rt
attribute [local irreducible] WL WC Con Yd At Ats Sl Agree DW
theorem Try_B_fb0 (x0 : Int) (w : World) : (Instr.buildSlice 43 1 [(0, .int .i64 x0)].toArray).run Tryz.prog w = .ok (.slice (some ⟨w.heap.size, 0, none⟩) 1 1) (w.alloc (Go.Rt.blk 3 [.int .i64 x0])) := by kernel_rfl
theorem nmBytes_take (l : List UInt8) : ∀ (f : Bool) (i : Nat), nmBytes f l = true → nmBytes f (l.take i) = true := by
  induction l with
  | nil => intro f i h; simpa using h
  | cons x l ih =>
    intro f i h
    cases i with
    | zero => rfl
    | succ i =>
      simp only [nmBytes, Bool.and_eq_true] at h
      simp only [List.take_succ_cons, nmBytes, Bool.and_eq_true]
      exact ⟨h.1, ih _ i h.2⟩
theorem zGh (s : ByteArray) (i : Nat) (h : i < s.size) (hb : nmByte (decide (i = 0)) s[i] = false) : false = nmOk s := by
  symm
  unfold nmOk
  cases hn : nmBytes true s.data.toList with
  | false => simp
  | true =>
    have := nmBytes_take _ true (i + 1) hn
    rw [zFk s i h, hb] at this
    simp at this
theorem dec (s : ByteArray) (i : Nat) (h : i < s.size) : (s[i].toNat < 128 ∧ (Utf8.decode s i).1 = s[i].toNat ∧ (Utf8.decode s i).2 = 1) ∨ (128 ≤ s[i].toNat ∧ 128 ≤ (Utf8.decode s i).1 ∧ 1 ≤ (Utf8.decode s i).2) := by
  rcases Nat.lt_or_ge s[i].toNat 128 with hlt | hge
  · left; rw [decode_ascii s i h hlt]; exact ⟨hlt, rfl, rfl⟩
  · right; exact ⟨hge, decode_high s i h hge⟩
theorem c32 {w0 w : World} {F : List (Nat × Obj)} (s : ByteArray) (hls : s.size ≤ 9223372036854775807) (hs : St w0 w F) :
  Con Tryz.prog 32 [.string s] w fun v w' => v = .bool (nmOk s) ∧ St w0 w' F := by
  refine zAt (n := 41) func32 rfl rfl (zNl rfl) ?_
  refine zAe (fun K2 gk => (zAa (zA5 rfl rfl (zAd (zAb (gk _ _ (zAe (fun K4 gm => (zAe (fun K6 gn => (zAa (w_p (zAi (v := .string _) rfl rfl) rfl ?_))))))))))))
  refine w_rangeStr zAc underlying9 rfl rfl hs (fun b7 w8 gq => ?_)
  refine zAd (zAb (gn _ _ (zAw ?_)))
  refine zBs [2,3,4,5,8,9,10,11,12,13,14,15,16,17,18,19,20,21,22,23,24,25,26,27,28,29,30,31,32,33,34,35] [] (fun k vs w => ∃ i : Nat, vs = [] ∧ i ≤ s.size ∧ k = s.size - i ∧ nmBytes true (s.data.toList.take i) = true ∧ St w0 w ((b7, .stringIter s i) :: F)) (s.size) ?_ ?_
  ·
   exact ⟨0, rfl, by omega, by omega, rfl, gq⟩
  intro k vs μ gC hI gE g3
  obtain ⟨i, rfl, hia, rfl, hpre, hs⟩ := hI
  refine zAe (fun gF gh => (zAa (w_nextStr (i := 0) zAc rfl rfl hs rfl (fun hp15 gG g0 => ?_) (fun hp15 => ?_))))
  ·
   refine w_p (zAp (v := .bool _) rfl rfl rfl) rfl (zAd (zAb (gh _ _ (zAe (fun gH gr => (zB1 rfl rfl ?_))))))
   refine zAs (zAb (gr _ _ (zAw ?_)))
   refine zAe (fun gI gt => (zAa ?_))
   have hi2 : i < s.size := by omega
   have hd := dec s i hi2
   have hb2 := s[i].toNat_lt
   refine w_p (zAp (v := .int _ _) rfl rfl rfl) rfl (w_p (zAp (v := .int _ _) rfl rfl rfl) rfl (zBe rfl rfl (zBe rfl rfl (zAd (zAb (gt _ _ (zAe (fun gJ gi => (zAa (zAz rfl rfl ?_))))))))))
   refine w_p (zKa rfl rfl rfl rfl) rfl (w_p (zAi (v := .bool _) rfl rfl) rfl (zBi (fun g6 => ?_) (fun g6 => ?_)))
   ·
    try simp only [zS] at g6
    refine w_y rfl rfl rfl (zA2 rfl rfl) rfl ?_
    refine w_y rfl rfl rfl (y_leq rfl rfl rfl rfl) rfl ?_
    refine w_p (zAx (v := .bool _) rfl rfl rfl rfl) rfl (w_p (zAo (v := .bool _) rfl rfl) rfl (zAd (zAb (gi _ _ (zAe (fun gK g4 => (zAa (w_p (zAi (v := .bool _) rfl rfl) rfl ?_))))))))
    refine w_p (zDz rfl rfl) rfl (w_p (zAi (v := .bool _) rfl rfl) rfl (zBi (fun g7 => ?_) (fun g7 => ?_)))
    ·
     try simp only [zS] at g7
     refine w_y rfl rfl rfl (zA2 rfl rfl) rfl ?_
     refine w_y rfl rfl rfl (zB6 rfl rfl rfl rfl) rfl ?_
     refine w_y rfl rfl rfl (zAi (v := .bool _) rfl rfl) rfl ?_
     refine zBi (fun g8 => ?_) (fun g8 => ?_)
     ·
      try simp only [zS] at g8
      refine zAh rfl rfl rfl ?_
      refine zAh rfl rfl rfl ?_
      refine zAh rfl rfl rfl ?_
      refine zBa rfl rfl rfl ?_
      refine zBa rfl rfl rfl ?_
      refine zBa rfl rfl rfl ?_
      refine zBa rfl rfl rfl ?_
      refine zBa rfl rfl rfl ?_
      refine zBa rfl rfl rfl ?_
      refine zAh rfl rfl rfl ?_
      refine w_y rfl rfl rfl (zAx (v := _) rfl rfl rfl rfl) rfl ?_
      refine w_p (zAx (v := .bool _) rfl rfl rfl rfl) rfl (zAd (zAb (g4 _ _ (zB1 rfl rfl ?_))))
      refine zAe (fun gL gu => (zAa (zA5 rfl rfl (zAd (zAb (gu _ _ (zAy (zAv (zAg (zAv (zAg (zA1 (l := [.tmp 2]) (vs := [_]) rfl ⟨⟨rfl, (rfl : _ = Value.bool _)⟩, trivial⟩ ?_))))))))))))
      first
        | exact ⟨congrArg Value.bool (zGh s i hi2 (by simp [nmByte]; omega)), g0.tail⟩
        | exact ⟨congrArg Value.bool (by have hil : i = s.size := (by omega); subst hil; rw [List.take_of_length_le (by simp)] at hpre; unfold nmOk; rw [hpre, Bool.eq_iff_iff]; simp [out] <;> omega), g0.tail.tail⟩
     try simp only [zS] at g8
     refine w_y rfl rfl rfl (zA2 rfl rfl) rfl ?_
     refine w_y rfl rfl rfl (zB2 rfl rfl rfl rfl) rfl ?_
     refine w_y rfl rfl rfl (zAi (v := .bool _) rfl rfl) rfl ?_
     refine zBi (fun g9 => ?_) (fun g9 => ?_)
     ·
      try simp only [zS] at g9
      refine w_y rfl rfl rfl (zA2 rfl rfl) rfl ?_
      refine w_y rfl rfl rfl (zBw rfl rfl rfl rfl) rfl ?_
      refine w_y rfl rfl rfl (zAi (v := .bool _) rfl rfl) rfl ?_
      refine zBi (fun ga => ?_) (fun ga => ?_)
      ·
       try simp only [zS] at ga
       refine zAh rfl rfl rfl ?_
       refine zAh rfl rfl rfl ?_
       refine w_y rfl rfl rfl (zAx (v := _) rfl rfl rfl rfl) rfl ?_
       refine w_y rfl rfl rfl (zAx (v := .bool _) rfl rfl rfl rfl) rfl ?_
       refine w_y rfl rfl rfl (zA9 (v := .bool _) rfl rfl rfl rfl) rfl ?_
       refine w_p (zAx (v := .bool _) rfl rfl rfl rfl) rfl (zAd (zAb (g4 _ _ (zB1 rfl rfl ?_))))
       refine zAe (fun gM gv => (zAa (zA5 rfl rfl (zAd (zAb (gv _ _ (zAy (zAv (zAg (zAv (zAg (zA1 (l := [.tmp 2]) (vs := [_]) rfl ⟨⟨rfl, (rfl : _ = Value.bool _)⟩, trivial⟩ ?_))))))))))))
       first
         | exact ⟨congrArg Value.bool (zGh s i hi2 (by simp [nmByte]; omega)), g0.tail⟩
         | exact ⟨congrArg Value.bool (by have hil : i = s.size := (by omega); subst hil; rw [List.take_of_length_le (by simp)] at hpre; unfold nmOk; rw [hpre, Bool.eq_iff_iff]; simp [out] <;> omega), g0.tail.tail⟩
      try simp only [zS] at ga
      refine w_y rfl rfl rfl (zA2 rfl rfl) rfl ?_
      refine w_y rfl rfl rfl (zD5 rfl rfl rfl rfl) rfl ?_
      refine w_y rfl rfl rfl (zA9 (v := .bool _) rfl rfl rfl rfl) rfl ?_
      refine w_y rfl rfl rfl (zAx (v := .bool _) rfl rfl rfl rfl) rfl ?_
      refine w_y rfl rfl rfl (zA9 (v := .bool _) rfl rfl rfl rfl) rfl ?_
      refine w_p (zAx (v := .bool _) rfl rfl rfl rfl) rfl (zAd (zAb (g4 _ _ (zAu rfl rfl (fun gb => ?_) (fun gb => ?_)))))
      ·
       try simp only [zS] at gb
       refine zAe (fun gN gw => (zAa (zA5 rfl rfl (zAd (zAb (gw _ _ (zAy (zAv (zAg (zAv (zAg (zA1 (l := [.tmp 2]) (vs := [_]) rfl ⟨⟨rfl, (rfl : _ = Value.bool _)⟩, trivial⟩ ?_))))))))))))
       first
         | exact ⟨congrArg Value.bool (zGh s i hi2 (by simp [nmByte]; omega)), g0.tail⟩
         | exact ⟨congrArg Value.bool (by have hil : i = s.size := (by omega); subst hil; rw [List.take_of_length_le (by simp)] at hpre; unfold nmOk; rw [hpre, Bool.eq_iff_iff]; simp [out] <;> omega), g0.tail.tail⟩
      try simp only [zS] at gb
      refine zAs (zAl (zAb (g3 _ _ (Nx.intro (s.size - (i + (Utf8.decode s i).2)) ((by omega)) (by repeat (first | exact zC2 | refine zC1 rfl ?_ | refine zCp rfl ?_ _ | refine zCg rfl ?_)) ?_))))
      have hd1 : s[i].toNat < 128 ∧ (Utf8.decode s i).1 = s[i].toNat ∧ (Utf8.decode s i).2 = 1 := (by rcases hd with h | h; exact h; (exfalso; first | omega | (simp only [Bool.or_eq_true, Bool.and_eq_true, decide_eq_true_eq, Bool.not_eq_true', decide_eq_false_iff_not] at *; omega)))
      have hn1 : nmByte (decide (i = 0)) s[i] = true := (by simp [nmByte]; omega)
      refine ⟨i + 1, rfl, by omega, by rw [hd1.2.2], ?_, by rw [← hd1.2.2]; exact g0⟩
      rw [zFk s i hi2, hpre, hn1]; rfl
     try simp only [zS] at g9
     refine zAh rfl rfl rfl ?_
     refine zAh rfl rfl rfl ?_
     refine zAh rfl rfl rfl ?_
     refine zBa rfl rfl rfl ?_
     refine zBa rfl rfl rfl ?_
     refine zAh rfl rfl rfl ?_
     refine w_y rfl rfl rfl (zA9 (v := _) rfl rfl rfl rfl) rfl ?_
     refine w_y rfl rfl rfl (zA9 (v := .bool _) rfl rfl rfl rfl) rfl ?_
     refine w_p (zAx (v := .bool _) rfl rfl rfl rfl) rfl (zAd (zAb (g4 _ _ (zBx rfl rfl ?_))))
     refine zAs (zAl (zAb (g3 _ _ (Nx.intro (s.size - (i + (Utf8.decode s i).2)) ((by omega)) (by repeat (first | exact zC2 | refine zC1 rfl ?_ | refine zCp rfl ?_ _ | refine zCg rfl ?_)) ?_))))
     have hd1 : s[i].toNat < 128 ∧ (Utf8.decode s i).1 = s[i].toNat ∧ (Utf8.decode s i).2 = 1 := (by rcases hd with h | h; exact h; (exfalso; first | omega | (simp only [Bool.or_eq_true, Bool.and_eq_true, decide_eq_true_eq, Bool.not_eq_true', decide_eq_false_iff_not] at *; omega)))
     have hn1 : nmByte (decide (i = 0)) s[i] = true := (by simp [nmByte]; omega)
     refine ⟨i + 1, rfl, by omega, by rw [hd1.2.2], ?_, by rw [← hd1.2.2]; exact g0⟩
     rw [zFk s i hi2, hpre, hn1]; rfl
    try simp only [zS] at g7
    refine zAh rfl rfl rfl ?_
    refine zAh rfl rfl rfl ?_
    refine zAh rfl rfl rfl ?_
    refine zBa rfl rfl rfl ?_
    refine zBa rfl rfl rfl ?_
    refine zBa rfl rfl rfl ?_
    refine zBa rfl rfl rfl ?_
    refine zBa rfl rfl rfl ?_
    refine zBa rfl rfl rfl ?_
    refine zBa rfl rfl rfl ?_
    refine zBa rfl rfl rfl ?_
    refine zBa rfl rfl rfl ?_
    refine zBa rfl rfl rfl ?_
    refine zAh rfl rfl rfl ?_
    refine w_p (zA9 (v := _) rfl rfl rfl rfl) rfl (zAd (zAb (g4 _ _ (zBx rfl rfl ?_))))
    refine zAs (zAl (zAb (g3 _ _ (Nx.intro (s.size - (i + (Utf8.decode s i).2)) ((by omega)) (by repeat (first | exact zC2 | refine zC1 rfl ?_ | refine zCp rfl ?_ _ | refine zCg rfl ?_)) ?_))))
    have hd1 : s[i].toNat < 128 ∧ (Utf8.decode s i).1 = s[i].toNat ∧ (Utf8.decode s i).2 = 1 := (by rcases hd with h | h; exact h; (exfalso; first | omega | (simp only [Bool.or_eq_true, Bool.and_eq_true, decide_eq_true_eq, Bool.not_eq_true', decide_eq_false_iff_not] at *; omega)))
    have hn1 : nmByte (decide (i = 0)) s[i] = true := (by simp [nmByte]; omega)
    refine ⟨i + 1, rfl, by omega, by rw [hd1.2.2], ?_, by rw [← hd1.2.2]; exact g0⟩
    rw [zFk s i hi2, hpre, hn1]; rfl
   try simp only [zS] at g6
   refine zAh rfl rfl rfl ?_
   refine zAh rfl rfl rfl ?_
   refine w_p (zA9 (v := _) rfl rfl rfl rfl) rfl (w_p (zAo (v := .bool _) rfl rfl) rfl (zAd (zAb (gi _ _ (zAe (fun gP g5 => (zAa (w_p (zAi (v := .bool _) rfl rfl) rfl ?_))))))))
   refine w_p (zDz rfl rfl) rfl (w_p (zAi (v := .bool _) rfl rfl) rfl (w_y rfl rfl rfl (zA2 rfl rfl) rfl (w_y rfl rfl rfl (zB6 rfl rfl rfl rfl) rfl (w_y rfl rfl rfl (zAi (v := .bool _) rfl rfl) rfl (zBi (fun gc => ?_) (fun gc => ?_))))))
   ·
    try simp only [zS] at gc
    refine zAh rfl rfl rfl ?_
    refine zAh rfl rfl rfl ?_
    refine zAh rfl rfl rfl ?_
    refine zBa rfl rfl rfl ?_
    refine zBa rfl rfl rfl ?_
    refine zBa rfl rfl rfl ?_
    refine zBa rfl rfl rfl ?_
    refine zBa rfl rfl rfl ?_
    refine zBa rfl rfl rfl ?_
    refine zAh rfl rfl rfl ?_
    refine w_y rfl rfl rfl (zAx (v := _) rfl rfl rfl rfl) rfl ?_
    refine w_p (zAx (v := .bool _) rfl rfl rfl rfl) rfl (zAd (zAb (g5 _ _ (zB1 rfl rfl ?_))))
    refine zAe (fun gQ gx => (zAa (zA5 rfl rfl (zAd (zAb (gx _ _ (zAy (zAv (zAg (zAv (zAg (zA1 (l := [.tmp 2]) (vs := [_]) rfl ⟨⟨rfl, (rfl : _ = Value.bool _)⟩, trivial⟩ ?_))))))))))))
    first
      | exact ⟨congrArg Value.bool (zGh s i hi2 (by simp [nmByte]; omega)), g0.tail⟩
      | exact ⟨congrArg Value.bool (by have hil : i = s.size := (by omega); subst hil; rw [List.take_of_length_le (by simp)] at hpre; unfold nmOk; rw [hpre, Bool.eq_iff_iff]; simp [out] <;> omega), g0.tail.tail⟩
   try simp only [zS] at gc
   refine w_y rfl rfl rfl (zA2 rfl rfl) rfl ?_
   refine w_y rfl rfl rfl (zB2 rfl rfl rfl rfl) rfl ?_
   refine w_y rfl rfl rfl (zAi (v := .bool _) rfl rfl) rfl ?_
   refine zBi (fun gd => ?_) (fun gd => ?_)
   ·
    try simp only [zS] at gd
    refine w_y rfl rfl rfl (zA2 rfl rfl) rfl ?_
    refine w_y rfl rfl rfl (zBw rfl rfl rfl rfl) rfl ?_
    refine w_y rfl rfl rfl (zAi (v := .bool _) rfl rfl) rfl ?_
    refine zBi (fun gf => ?_) (fun gf => ?_)
    ·
     try simp only [zS] at gf
     refine zAh rfl rfl rfl ?_
     refine zAh rfl rfl rfl ?_
     refine w_y rfl rfl rfl (zAx (v := _) rfl rfl rfl rfl) rfl ?_
     refine w_y rfl rfl rfl (zAx (v := .bool _) rfl rfl rfl rfl) rfl ?_
     refine w_y rfl rfl rfl (zA9 (v := .bool _) rfl rfl rfl rfl) rfl ?_
     refine w_p (zAx (v := .bool _) rfl rfl rfl rfl) rfl (zAd (zAb (g5 _ _ (zB1 rfl rfl ?_))))
     refine zAe (fun gR gy => (zAa (zA5 rfl rfl (zAd (zAb (gy _ _ (zAy (zAv (zAg (zAv (zAg (zA1 (l := [.tmp 2]) (vs := [_]) rfl ⟨⟨rfl, (rfl : _ = Value.bool _)⟩, trivial⟩ ?_))))))))))))
     first
       | exact ⟨congrArg Value.bool (zGh s i hi2 (by simp [nmByte]; omega)), g0.tail⟩
       | exact ⟨congrArg Value.bool (by have hil : i = s.size := (by omega); subst hil; rw [List.take_of_length_le (by simp)] at hpre; unfold nmOk; rw [hpre, Bool.eq_iff_iff]; simp [out] <;> omega), g0.tail.tail⟩
    try simp only [zS] at gf
    refine w_y rfl rfl rfl (zA2 rfl rfl) rfl ?_
    refine w_y rfl rfl rfl (zD5 rfl rfl rfl rfl) rfl ?_
    refine w_y rfl rfl rfl (zA9 (v := .bool _) rfl rfl rfl rfl) rfl ?_
    refine w_y rfl rfl rfl (zAx (v := .bool _) rfl rfl rfl rfl) rfl ?_
    refine w_y rfl rfl rfl (zA9 (v := .bool _) rfl rfl rfl rfl) rfl ?_
    refine w_p (zAx (v := .bool _) rfl rfl rfl rfl) rfl (zAd (zAb (g5 _ _ (zAu rfl rfl (fun gg => ?_) (fun gg => ?_)))))
    ·
     try simp only [zS] at gg
     refine zAe (fun gS gz => (zAa (zA5 rfl rfl (zAd (zAb (gz _ _ (zAy (zAv (zAg (zAv (zAg (zA1 (l := [.tmp 2]) (vs := [_]) rfl ⟨⟨rfl, (rfl : _ = Value.bool _)⟩, trivial⟩ ?_))))))))))))
     first
       | exact ⟨congrArg Value.bool (zGh s i hi2 (by simp [nmByte]; omega)), g0.tail⟩
       | exact ⟨congrArg Value.bool (by have hil : i = s.size := (by omega); subst hil; rw [List.take_of_length_le (by simp)] at hpre; unfold nmOk; rw [hpre, Bool.eq_iff_iff]; simp [out] <;> omega), g0.tail.tail⟩
    try simp only [zS] at gg
    refine zAs (zAl (zAb (g3 _ _ (Nx.intro (s.size - (i + (Utf8.decode s i).2)) ((by omega)) (by repeat (first | exact zC2 | refine zC1 rfl ?_ | refine zCp rfl ?_ _ | refine zCg rfl ?_)) ?_))))
    have hd1 : s[i].toNat < 128 ∧ (Utf8.decode s i).1 = s[i].toNat ∧ (Utf8.decode s i).2 = 1 := (by rcases hd with h | h; exact h; (exfalso; first | omega | (simp only [Bool.or_eq_true, Bool.and_eq_true, decide_eq_true_eq, Bool.not_eq_true', decide_eq_false_iff_not] at *; omega)))
    have hn1 : nmByte (decide (i = 0)) s[i] = true := (by simp [nmByte]; omega)
    refine ⟨i + 1, rfl, by omega, by rw [hd1.2.2], ?_, by rw [← hd1.2.2]; exact g0⟩
    rw [zFk s i hi2, hpre, hn1]; rfl
   try simp only [zS] at gd
   refine zAh rfl rfl rfl ?_
   refine zAh rfl rfl rfl ?_
   refine zAh rfl rfl rfl ?_
   refine zBa rfl rfl rfl ?_
   refine zBa rfl rfl rfl ?_
   refine zAh rfl rfl rfl ?_
   refine w_y rfl rfl rfl (zA9 (v := _) rfl rfl rfl rfl) rfl ?_
   refine w_y rfl rfl rfl (zA9 (v := .bool _) rfl rfl rfl rfl) rfl ?_
   refine w_p (zAx (v := .bool _) rfl rfl rfl rfl) rfl (zAd (zAb (g5 _ _ (zBx rfl rfl ?_))))
   refine zAs (zAl (zAb (g3 _ _ (Nx.intro (s.size - (i + (Utf8.decode s i).2)) ((by omega)) (by repeat (first | exact zC2 | refine zC1 rfl ?_ | refine zCp rfl ?_ _ | refine zCg rfl ?_)) ?_))))
   have hd1 : s[i].toNat < 128 ∧ (Utf8.decode s i).1 = s[i].toNat ∧ (Utf8.decode s i).2 = 1 := (by rcases hd with h | h; exact h; (exfalso; first | omega | (simp only [Bool.or_eq_true, Bool.and_eq_true, decide_eq_true_eq, Bool.not_eq_true', decide_eq_false_iff_not] at *; omega)))
   have hn1 : nmByte (decide (i = 0)) s[i] = true := (by simp [nmByte]; omega)
   refine ⟨i + 1, rfl, by omega, by rw [hd1.2.2], ?_, by rw [← hd1.2.2]; exact g0⟩
   rw [zFk s i hi2, hpre, hn1]; rfl
  refine w_p (zAp (v := .bool _) rfl rfl rfl) rfl (zAd (zAb (gh _ _ (zAe (fun gU gV => (zBx rfl rfl ?_))))))
  refine zBl (zAm (zAm (zA0 (zAb (gm _ _ (zAe (fun gW gA => (zAa (w_p (zAi (v := .string _) rfl rfl) rfl (w_p (y_lenStr underlying9 rfl rfl) rfl ?_))))))))))
  refine zBb (ps := [(0, _)]) (pv := [(0, .int _ _)]) (cs := [_]) zAc rfl rfl (fun w => Try_B_fb0 _ w) hs (fun gX gY gB => ?_)
  refine zAr zAc call57 rfl rfl rfl rfl (c57 _ _ _ [_] _ (by simp) (zBt (i := 0) (rows := [[_]]) rfl (by simp) rfl) gB) ?_
  rintro _ gZ ⟨rfl, gj⟩
  refine w_p (zDz rfl rfl) rfl (w_p (zAo (v := .bool _) rfl rfl) rfl (zAd (zAb (gA _ _ (zAy (zA1 (l := [.tmp 2]) (vs := [_]) rfl ⟨⟨rfl, (rfl : _ = Value.bool _)⟩, trivial⟩ ?_))))))
  first
    | exact ⟨congrArg Value.bool (zGh s i hi2 (by simp [nmByte]; omega)), gj.tail⟩
    | exact ⟨congrArg Value.bool (by have hil : i = s.size := (by omega); subst hil; rw [List.take_of_length_le (by simp)] at hpre; unfold nmOk; rw [hpre, Bool.eq_iff_iff]; simp [out] <;> omega), gj.tail.tail⟩

end Go.Proofs
/- Plain words of the hand layer: lots, their errors, their ways. No conditions. -/
namespace Go.Rt.Ha
structure Grade where
  name : ByteArray
  hands : Int
  scars : Int
structure Bunch where
  lo : Int
  hi : Int
  slo : Int
  shi : Int
structure Count where
  bits : Int
  hands : Int
structure Lot where
  grades : List Grade
  bunches : List Bunch
  counts : List Count
def Grade.cells (g : Grade) : List Value := [.string g.name, .int .i64 g.hands, .int .i64 g.scars]
def Bunch.cells (b : Bunch) : List Value := [.int .i64 b.lo, .int .i64 b.hi, .int .i64 b.slo, .int .i64 b.shi]
def Count.cells (c : Count) : List Value := [.int .i64 c.bits, .int .i64 c.hands]
structure At3 where
  ag : Option Addr
  cg : Nat
  ab : Option Addr
  cb : Nat
  ac : Option Addr
  cc : Nat
def Lot.cells (l : Lot) (p : At3) : List Value := [.slice p.ag l.grades.length p.cg, .slice p.ab l.bunches.length p.cb, .slice p.ac l.counts.length p.cc]
def grows (l : List Grade) : List (List Value) := l.map Grade.cells
def brows (l : List Bunch) : List (List Value) := l.map Bunch.cells
def crows (l : List Count) : List (List Value) := l.map Count.cells
def firstE {α : Type} (err : List α → α → Int) : List α → Int → List α → Int × Int
  | _,_, [] => (0,0)
  | b, i, x :: l => if err b x = 0 then firstE err (b ++ [x]) (i + 1) l else (i, err b x)
theorem zCe {α : Type} {err : List α → α → Int} {l : List α} {i : Nat} (hi : i < l.length) (h : err (l.take i) l[i] = 0) : firstE err (l.take i) i (l.drop i) = firstE err (l.take (i + 1)) (i + 1 : Nat) (l.drop (i + 1)) := by
  rw [List.drop_eq_getElem_cons hi]
  simp only [firstE, h, if_true]
  rw [List.take_succ_eq_append_getElem hi]; rfl
theorem zAn {α : Type} {err : List α → α → Int} {l : List α} {i : Nat} (hi : i < l.length) (h : err (l.take i) l[i] ≠ 0) : firstE err (l.take i) i (l.drop i) = ((i : Int), err (l.take i) l[i]) := by
  rw [List.drop_eq_getElem_cons hi]
  simp only [firstE, if_neg h]
theorem zBh {α : Type} {err : List α → α → Int} {l : List α} {i : Nat} (hi : l.length ≤ i) (b : List α) : firstE err b i (l.drop i) = (0,0) := by
  rw [List.drop_of_length_le hi]; rfl
def nameE (before : List ByteArray) (s : ByteArray) : Int := if nmOk s then (if has before s then 5 else 0) else 6
def notBelow (before : List Grade) (g : Grade) : Bool := match before.getLast? with | none => false | some q => decide (q.hands ≤ g.hands) || decide (g.scars < q.scars)
def gradeE (before : List Grade) (g : Grade) : Int := if nameE (before.map (·.name)) g.name ≠ 0 then nameE (before.map (·.name)) g.name else if out 1 12 g.hands || out 0 9 g.scars then 7 else if notBelow before g then 2 else 0
def bunchE (_before : List Bunch) (b : Bunch) : Int := if out 1 12 b.lo || out 1 12 b.hi || (out 0 9 b.slo || out 0 9 b.shi) then 7 else if out 0 3 (b.hi - b.lo) || decide (b.shi < b.slo) then 2 else 0
def countE (n : Nat) (_before : List Count) (c : Count) : Int := if out 1 (2 ^ n - 1) c.bits then 4 else if out 0 72 c.hands then 7 else 0
def failE {α : Type} (err : List α → α → Int) (lo most : Int) (l : List α) : Int × Int := if out lo most l.length then (0,3) else firstE err [] 0 l
def check (l : Lot) : Int × Int × Int :=
  if (failE gradeE 1 4 l.grades).2 ≠ 0 then (1, failE gradeE 1 4 l.grades) else if (failE bunchE 0 6 l.bunches).2 ≠ 0 then (2, failE bunchE 0 6 l.bunches) else if (failE (countE l.bunches.length) 0 4 l.counts).2 ≠ 0 then (3, failE (countE l.bunches.length) 0 4 l.counts) else (0,0,0)
def upto (lo : Int) : Nat → List Int
  | 0 => []
  | n + 1 => lo :: upto (lo + 1) n
def spanL (lo hi : Int) : List Int := upto lo (hi + 1 - lo).toNat
def felt : List Bunch → List (List Int)
  | [] => [[]]
  | b :: l => (spanL b.lo b.hi).flatMap fun n => (felt l).map (n :: ·)
theorem felt_snoc (l : List Bunch) (b : Bunch) : felt (l ++ [b]) = (felt l).flatMap fun h => (spanL b.lo b.hi).map fun n => h ++ [n] := by
  induction l with
  | nil => simp [felt, List.flatMap]; induction spanL b.lo b.hi with
    | nil => rfl
    | cons a l ih => simp [ih]
  | cons a l ih => simp only [List.cons_append, felt, ih, List.flatMap_assoc, List.map_flatMap, List.flatMap_map, List.map_map]; rfl
def bit (b j : Nat) : Nat := (b >>> j) &&& 1
def counted (bits : Nat) : Nat → List Int → Int
  | _, [] => 0
  | i, h :: l => (if bit bits i = 1 then h else 0) + counted bits (i + 1) l
def soFrom (but : Nat) (h : List Int) : Nat → List Count → Bool
  | _, [] => true
  | i, c :: l => (decide (bit but i = 1) || decide (counted c.bits.toNat 0 h = c.hands)) && soFrom but h (i + 1) l
def ways (l : Lot) (but : Nat) : List (List Int) := (felt l.bunches).filter fun h => soFrom but h 0 l.counts
def ofG : List Grade → Int → Int → Int → Int
  | [], _,_, _ => -1
  | g :: l, i, h, s => if g.hands ≤ h ∧ s ≤ g.scars then i else ofG l (i + 1) h s
def orG (gs : List Grade) (h : Int) : List Int → Nat
  | [] => 0
  | s :: l => 1 <<< (ofG gs 0 h s + 1).toNat ||| orG gs h l
def gradesB (l : Lot) (b : Bunch) (h : Int) : Nat := orG l.grades h (spanL b.slo b.shi)
end Go.Rt.Ha
/- Plain words of the hand layer: what the program's functions return. No conditions. -/
namespace Go.Rt.Ha
def idxE (n : Int) (below : Nat) : Int := if out 0 (below - 1) n then 4 else 0
def enterE (l : Lot) (e : Int) : Int := if (check l).2.2 ≠ 0 then (check l).2.2 else if e ≠ 0 then e else if ways l 0 = [] then 8 else 0
def at_ (h : List Int) (b : Nat) : Int := h.getD b 0
def joinS (b : Nat) (s : Int × Int) (h : List Int) : Int × Int := (min s.1 (at_ h b), max s.2 (at_ h b))
def spanW (b : Nat) (ws : List (List Int)) : Int × Int := ws.foldl (joinS b) (12,0)
def bunchOf (l : Lot) (b : Nat) : Bunch := l.bunches.getD b ⟨0,0,0,0⟩
def setW (l : Lot) (b : Nat) (ws : List (List Int)) : Nat := ws.foldl (fun s h => s ||| gradesB l (bunchOf l b) (at_ h b)) 0
def handsP (l : Lot) (b : Int) : (Int × Int) × Int := if enterE l (idxE b l.bunches.length) ≠ 0 then ((0,0), enterE l (idxE b l.bunches.length)) else (spanW b.toNat (ways l 0), 0)
def listL (b : Nat) : Nat → List Int
  | 0 => []
  | n + 1 => listL b n ++ if bit b n = 1 then [(n : Int)] else []
def gradeP (l : Lot) (b : Int) : List Int × Int := if enterE l (idxE b l.bunches.length) ≠ 0 then ([], enterE l (idxE b l.bunches.length)) else ((listL (setW l b.toNat (ways l 0)) (l.grades.length + 1)).map (· - 1), 0)
def sumsTo (l : Lot) (g : Nat) (h : List Int) : Nat → Int × Int
  | 0 => (0,0)
  | k + 1 => let s := sumsTo l g h k; let z := gradesB l (bunchOf l k) (at_ h k)
    if z = 2 <<< g then (s.1 + at_ h k, s.2 + at_ h k) else if bit z (g + 1) = 1 then (s.1, s.2 + at_ h k) else s
def sums (l : Lot) (g : Nat) (h : List Int) : Int × Int := sumsTo l g h l.bunches.length
def totalW (l : Lot) (g : Nat) (ws : List (List Int)) : Int × Int := ws.foldl (fun s h => (min s.1 (sums l g h).1, max s.2 (sums l g h).2)) (72,0)
def totalP (l : Lot) (g : Int) : (Int × Int) × Int := if enterE l (idxE g l.grades.length) ≠ 0 then ((0,0), enterE l (idxE g l.grades.length)) else (totalW l g.toNat (ways l 0), 0)
def sureTo (l : Lot) (ws : List (List Int)) : Nat → List Int
  | 0 => []
  | k + 1 => sureTo l ws k ++ if setW l k ws = 1 then [(k : Int)] else []
def mayTo (l : Lot) (ws : List (List Int)) : Nat → List Int
  | 0 => []
  | k + 1 => mayTo l ws k ++ if setW l k ws &&& 1 = 1 then [(k : Int)] else []
def refusedP (l : Lot) : List Int × List Int × Int := if enterE l 0 ≠ 0 then ([], [], enterE l 0) else (sureTo l (ways l 0) l.bunches.length, mayTo l (ways l 0) l.bunches.length, 0)
def before (a b : List Int) : Bool := decide (a.length < b.length) || (decide (a.length = b.length) && less a b)
def fewStep (do_ : Nat → Bool) (n : Nat) (s : List Int × Bool) (b : Nat) : List Int × Bool := if s.2 && before s.1 (listL b n) then s else if do_ b then (listL b n, true) else s
def fewTo (do_ : Nat → Bool) (n : Nat) : Nat → List Int × Bool
  | 0 => ([], false)
  | k + 1 => fewStep do_ n (fewTo do_ n k) k
def fewest (do_ : Nat → Bool) (n : Nat) : List Int × Bool := fewTo do_ n (1 <<< n)
def fitTo (l : Lot) (g : Nat) (ws : List (List Int)) : Nat → Nat
  | 0 => 0
  | k + 1 => if setW l k ws &&& 1 = 1 ∨ 0 < setW l k ws >>> (g + 2) then fitTo l g ws k else fitTo l g ws k ||| 1 <<< k
def someOf (h : List Int) : List Int → Int
  | [] => 0
  | b :: r => at_ h b.toNat + someOf h r
def bitDiff (a b : Nat) : Nat := a &&& (a ^^^ b)
def pickDo (l : Lot) (g : Nat) (many : Int) (b : Nat) : Bool := decide (bitDiff b (fitTo l g (ways l 0) l.bunches.length) = 0) && (ways l 0).all fun h => decide (many ≤ someOf h (listL b l.bunches.length))
def pickE (l : Lot) (g many : Int) : Int := if idxE g l.grades.length ≠ 0 then idxE g l.grades.length else if out 0 72 many then 7 else 0
def pickP (l : Lot) (g many : Int) : List Int × Int :=
  if enterE l (pickE l g many) ≠ 0 then ([], enterE l (pickE l g many)) else
  if (fewest (pickDo l g.toNat many) l.bunches.length).2 then ((fewest (pickDo l g.toNat many) l.bunches.length).1,0) else ([], 9)
def often (b : Nat) (n : Int) (ws : List (List Int)) : Int := (ws.filter fun h => decide (at_ h b = n)).length
def mostTo (b : Nat) (ws : List (List Int)) : Nat → Int
  | 0 => 0
  | k + 1 => max (mostTo b ws k) (often b k ws)
def leftW (b : Nat) (ws : List (List Int)) : Int := mostTo b ws 13
def nextTo (ws : List (List Int)) : Nat → Int × Int
  | 0 => (-1,0)
  | k + 1 => let s := nextTo ws k
    if leftW k ws < ws.length ∧ (s.1 < 0 ∨ leftW k ws < s.2) then ((k : Int), leftW k ws) else s
def nextP (l : Lot) : Int × Int × Int := if enterE l 0 ≠ 0 then (0,0, enterE l 0) else if (nextTo (ways l 0) l.bunches.length).1 < 0 then (0,0,9) else ((nextTo (ways l 0) l.bunches.length).1, (nextTo (ways l 0) l.bunches.length).2,0)
def wrongP (l : Lot) : List Int × Int := if (check l).2.2 ≠ 0 then ([], (check l).2.2) else ((fewest (fun b => !(ways l b).isEmpty) l.counts.length).1,0)
end Go.Rt.Ha
/- The walking engine, part 10: bits of numbers, numbers within arrays of a struct, maps by structs of numbers. No conditions. -/
namespace Go.Rt
open Go.RowKit
section
variable {r : Option Nat} {P : Program} {ops : Array Oper} {Q : Exit → Act → World → Prop} {rest : List Oper} {n : Nat} {ρ : Nat → Value} {ds : List Deferred} {d : Option Tmp} {ty : TypeId} {p : String} {e : Array Edge} {g : Option (Nat × Bool)} {w w0 : World} {L : List (Nat × Obj)}
theorem ofI (a : Nat) (ha : a < 9223372036854775808) : (BitVec.ofInt 64 (a : Int)).toNat = a := by
  rw [BitVec.ofInt_natCast, BitVec.toNat_ofNat]; exact Nat.mod_eq_of_lt (by omega)
theorem zI2 {t t2 : TypeId} {u v : Operand} {a b : Int} {x y : Nat} (ho : okO n u = true) (ho1 : okO n v = true) (hx : ev ρ u = .int .i64 a) (hy : ev ρ v = .int .i64 b) (ha : a = (x : Int)) (hb : b = (y : Int)) (h1 : x < 9223372036854775808) (h2 : y < 9223372036854775808) :
    Yd P (A n ρ ds) ⟨d, .binOp .and t u v t2, ty, p, e, g⟩ w (.int .i64 ((x &&& y : Nat) : Int)) := by
  subst ha hb
  refine zHk ho ho1 hx hy fun w => ?_
  have hle : x &&& y < 2 ^ 63 := Nat.and_lt_two_pow _ (by omega)
  have : Go.bits .and .i64 (x : Int) (y : Int) = ((x &&& y : Nat) : Int) := by
    show IntKind.i64.wrap ((BitVec.ofInt 64 (x : Int) &&& BitVec.ofInt 64 (y : Int)).toNat : Int) = _
    rw [BitVec.toNat_and, ofI x h1, ofI y h2, zFt (by omega) (by omega)]
  rw [binOp_and, intBits_and, this]; rfl
theorem y_or {t t2 : TypeId} {u v : Operand} {a b : Int} {x y : Nat} (ho : okO n u = true) (ho1 : okO n v = true) (hx : ev ρ u = .int .i64 a) (hy : ev ρ v = .int .i64 b) (ha : a = (x : Int)) (hb : b = (y : Int)) (h1 : x < 9223372036854775808) (h2 : y < 9223372036854775808) :
    Yd P (A n ρ ds) ⟨d, .binOp .or t u v t2, ty, p, e, g⟩ w (.int .i64 ((x ||| y : Nat) : Int)) := by
  subst ha hb
  refine zHk ho ho1 hx hy fun w => ?_
  have hle : x ||| y < 2 ^ 63 := Nat.or_lt_two_pow (by omega) (by omega)
  have : Go.bits .or .i64 (x : Int) (y : Int) = ((x ||| y : Nat) : Int) := by
    show IntKind.i64.wrap ((BitVec.ofInt 64 (x : Int) ||| BitVec.ofInt 64 (y : Int)).toNat : Int) = _
    rw [BitVec.toNat_or, ofI x h1, ofI y h2, zFt (by omega) (by omega)]
  rw [binOp_or, intBits_or, this]; rfl
def bitDiff (x y : Nat) : Nat := (BitVec.ofNat 64 x &&& ~~~(BitVec.ofNat 64 y)).toNat
theorem bitDiff_le (x y : Nat) (h : x < 9223372036854775808) : bitDiff x y ≤ x := by
  unfold bitDiff
  rw [BitVec.toNat_and, BitVec.toNat_ofNat, Nat.mod_eq_of_lt (by omega)]
  exact Nat.and_le_left
theorem zKe {t t2 : TypeId} {u v : Operand} {a b : Int} {x y : Nat} (ho : okO n u = true) (ho1 : okO n v = true) (hx : ev ρ u = .int .i64 a) (hy : ev ρ v = .int .i64 b) (ha : a = (x : Int)) (hb : b = (y : Int)) (h1 : x < 9223372036854775808) :
    Yd P (A n ρ ds) ⟨d, .binOp .andNot t u v t2, ty, p, e, g⟩ w (.int .i64 ((bitDiff x y : Nat) : Int)) := by
  subst ha hb
  refine zHk ho ho1 hx hy fun w => ?_
  have hle := bitDiff_le x y h1
  have : Go.bits .andNot .i64 (x : Int) (y : Int) = ((bitDiff x y : Nat) : Int) := by
    show IntKind.i64.wrap ((BitVec.ofInt 64 (x : Int) &&& ~~~(BitVec.ofInt 64 (y : Int))).toNat : Int) = _
    rw [BitVec.ofInt_natCast, BitVec.ofInt_natCast]
    exact zFt (z := ((bitDiff x y : Nat) : Int)) (by omega) (by omega)
  rw [binOp_andNot, intBits_andNot, this]; rfl
theorem zJ9 {t t2 : TypeId} {u v : Operand} {a b : Int} {x y : Nat} (ho : okO n u = true) (ho1 : okO n v = true) (hx : ev ρ u = .int .i64 a) (hy : ev ρ v = .int .i64 b) (ha : a = (x : Int)) (hb : b = (y : Int)) (h2 : y ≤ 60) :
    Yd P (A n ρ ds) ⟨d, .binOp .shr t u v t2, ty, p, e, g⟩ w (.int .i64 ((x >>> y : Nat) : Int)) := by
  subst ha hb
  refine zHk ho ho1 hx hy fun w => ?_
  rw [binOp_shr]
  unfold Op.shift
  have hb : IntKind.i64.bits = 64 := rfl
  rw [if_neg (by omega)]
  simp only [Int.toNat_natCast, hb, Nat.min_eq_left (show y ≤ 64 by omega), Sem.run_pure]
  congr 2
  rw [Int.fdiv_eq_ediv_of_nonneg _ (by exact_mod_cast Nat.zero_le _), Nat.shiftRight_eq_div_pow]
  norm_cast
theorem zI1 {t t2 : TypeId} {u v : Operand} {a b : Int} {x y : Nat} (ho : okO n u = true) (ho1 : okO n v = true) (hx : ev ρ u = .int .i64 a) (hy : ev ρ v = .int .i64 b) (ha : a = (x : Int)) (hb : b = (y : Int)) (h1 : x ≤ 1000) (h2 : y ≤ 40) :
    Yd P (A n ρ ds) ⟨d, .binOp .shl t u v t2, ty, p, e, g⟩ w (.int .i64 ((x <<< y : Nat) : Int)) := by
  subst ha hb
  refine zHk ho ho1 hx hy fun w => ?_
  rw [binOp_shl]
  unfold Op.shift
  have hb : IntKind.i64.bits = 64 := rfl
  rw [if_neg (by omega)]
  simp only [Int.toNat_natCast, hb, Nat.min_eq_left (show y ≤ 64 by omega), Sem.run_pure]
  have h3 : x * 2 ^ y ≤ 1000 * 2 ^ 40 := Nat.mul_le_mul h1 (Nat.pow_le_pow_right (by omega) h2)
  have h4 : (x : Int) * 2 ^ y = ((x * 2 ^ y : Nat) : Int) := by push_cast; rfl
  rw [h4, zFt (by omega) (by omega), Nat.shiftLeft_eq]
theorem ats_intsO {b i o j : Nat} {t : TypeId} {l : List Int} (hi : L[i]? = some (b, blk t (iv l))) (hj : o + j < l.length) : Ats w0 L b (o + j * 1) [.int .i64 (l.getD (o + j) 0)] := by
  have := zB7 (w0 := w0) (j := o + j) hi hj
  rwa [show 0 + (o + j) * 1 = o + j * 1 by omega] at this
theorem zIz {b i o : Nat} {t : TypeId} {l : List Int} (hi : L[i]? = some (b, blk t (iv l))) (hj : o < l.length) : Ats w0 L b o [.int .i64 (l.getD o 0)] := by
  have := zB7 (w0 := w0) (j := o) hi hj
  rwa [show 0 + o * 1 = o by omega] at this
theorem w_storeAtIO {t : TypeId} {x y : Operand} {b i o j : Nat} {tb : TypeId} {l : List Int} {z : Int} (hw : Want ops (A n ρ ds) ⟨none, .store t x y, ty, p, e, g⟩) (hs : ∀ w, (sizeOf t).run P w = .ok 1 w)
    (ho : okO n x = true) (ho1 : okO n y = true) (hx : ev ρ x = .pointer (some ⟨b, o + j * 1, none⟩)) (hy : ev ρ y = .int .i64 z) (hst : St w0 w L) (hi : L[i]? = some (b, blk tb (iv l))) (hl : o + j < l.length)
    (hk : ∀ w', St w0 w' (L.set i (b, blk tb (iv (l.set (o + j) z)))) → WL r P ops Q rest (A n ρ ds) w') :
    WL r P ops Q (⟨none, .store t x y, ty, p, e, g⟩ :: rest) (A n ρ ds) w :=
  zC0 (j := o + j) hw hs ho ho1 (by rw [hx, show 0 + (o + j) * 1 = o + j * 1 by omega]) hy hst hi hl hk
theorem w_storeAtIC {t : TypeId} {x y : Operand} {b i o : Nat} {tb : TypeId} {l : List Int} {z : Int} (hw : Want ops (A n ρ ds) ⟨none, .store t x y, ty, p, e, g⟩) (hs : ∀ w, (sizeOf t).run P w = .ok 1 w)
    (ho : okO n x = true) (ho1 : okO n y = true) (hx : ev ρ x = .pointer (some ⟨b, o, none⟩)) (hy : ev ρ y = .int .i64 z) (hst : St w0 w L) (hi : L[i]? = some (b, blk tb (iv l))) (hl : o < l.length)
    (hk : ∀ w', St w0 w' (L.set i (b, blk tb (iv (l.set o z)))) → WL r P ops Q rest (A n ρ ds) w') :
    WL r P ops Q (⟨none, .store t x y, ty, p, e, g⟩ :: rest) (A n ρ ds) w :=
  zC0 (j := o) hw hs ho ho1 (by rw [hx, show 0 + o * 1 = o by omega]) hy hst hi hl hk
theorem y_loadIP {k o : Nat} {t : TypeId} {x : Operand} {b i : Nat} {tb : TypeId} {l : List Int} (ha : ∀ w, (isAgg t).run P w = .ok true w) (hs : ∀ w, (sizeOf t).run P w = .ok k w) (hkl : o + k ≤ l.length) (hst : St w0 w L) (ho : okO n x = true) (hx : ev ρ x = .pointer (some ⟨b, o, none⟩))
    (hi : L[i]? = some (b, blk tb (iv l))) : Yd P (A n ρ ds) ⟨d, .load t x, ty, p, e, g⟩ w (ia ((l.drop o).take k)) := by
  have hl : (iv ((l.drop o).take k)).length = k := by simp; omega
  have := zA4 (d := d) (ty := ty) (p := p) (e := e) (g := g) (P := P) (ds := ds) (vs := iv ((l.drop o).take k)) ha (by rw [hl]; exact hs) hst ho hx (zAk hi (by rw [hl]; simp [iv, List.map_drop, List.map_take]))
  exact this
theorem zKc {t el len : TypeId} {x y : Operand} {a : Value} {l : List Int} {z : Int} {i : Nat} (hU : P.underlying t = some (.array len el)) (hel : P.underlying el = some (.int .i64)) (hsz : ∀ w, (sizeOf el).run P w = .ok 1 w) (ho : okO n x = true) (ho1 : okO n y = true)
    (hx : ev ρ x = a) (ha : a = ia l) (hy : ev ρ y = .int .i64 z) (hz : z = (i : Int)) (hi : i < len) (hl : i < l.length) : Yd P (A n ρ ds) ⟨d, .index t x y, ty, p, e, g⟩ w (.int .i64 (l.getD i 0)) := by
  subst hz ha
  have e1 : (iv l).toArray[i * 1]? = some (.int .i64 (l.getD i 0)) := by simp [hl]
  have hp := zDg (P := P) (w := w) hel e1
  have : (Instr.index t (ia l) (.int .i64 (i : Int))).run P w = .ok (.int .i64 (l.getD i 0)) w := by
    unfold Instr.index ia
    simp only [asIntOf, Sem.run_bind, Sem.run_pure, Result.andThen_ok, run_underlying hU]
    rw [if_pos ⟨by omega, by omega⟩]
    simp only [Sem.run_bind, hsz, Result.andThen_ok, Int.toNat_natCast, hp]
  simp only [Yd, execOp, zB3 ho, zB3 ho1, hx, hy, Sem.run_bind, this]
  rfl
theorem zGe {t : TypeId} {k o : Nat} (ha : ∀ w, (isAgg t).run P w = .ok true w) (hs : ∀ w, (sizeOf t).run P w = .ok k w) {l : List Int} : (part t (iv l).toArray o).run P w = .ok (ia ((l.drop o).take k)) w := by
  unfold part
  simp only [Sem.run_bind, ha, Result.andThen_ok, if_true, hs, Sem.run_pure]
  congr 2
  simp [iv, List.map_drop, List.map_take, List.extract_eq_take_drop]
def FF (P : Program) (f : Field) (k : Nat) : Prop := f.name ≠ "_" ∧ ((P.underlying f.type = some (.int .i64) ∧ k = 1) ∨ (flatInts P f.type k = true ∧ (∀ w, (isAgg f.type).run P w = .ok true w) ∧ ∀ w, (sizeOf f.type).run P w = .ok k w))
theorem zIq (dd : Nat) (l m : List Int) : ∀ (fs : List (Field × Nat)), (∀ q ∈ fs, FF P q.1 q.2 ∧ q.1.offset + q.2 ≤ l.length ∧ q.1.offset + q.2 ≤ m.length) →
    (Op.eqFields (dd + 2) (iv l).toArray (iv m).toArray (fs.map Prod.fst)).run P w = .ok (fs.all fun q => decide ((l.drop q.1.offset).take q.2 = (m.drop q.1.offset).take q.2)) w
  | [], _ => by simp [Op.eqFields]
  | q :: fs, hh => by
    obtain ⟨⟨hn, hff⟩, h1, h2⟩ := hh q (.head _)
    have ih := zIq dd l m fs fun j hj => hh j (.tail _ hj)
    have key : ∃ u v : Value, (part q.1.type (iv l).toArray q.1.offset).run P w = .ok u w ∧ (part q.1.type (iv m).toArray q.1.offset).run P w = .ok v w ∧ (Op.equalIn (dd + 2) q.1.type u v).run P w = .ok (decide ((l.drop q.1.offset).take q.2 = (m.drop q.1.offset).take q.2)) w := by
      rcases hff with ⟨hu, hk⟩ | ⟨hf, ha, hs⟩
      · have e1 : (iv l).toArray[q.1.offset]? = some (.int .i64 (l.getD q.1.offset 0)) := by simp [show q.1.offset < l.length by omega]
        have e2 : (iv m).toArray[q.1.offset]? = some (.int .i64 (m.getD q.1.offset 0)) := by simp [show q.1.offset < m.length by omega]
        refine ⟨_, _, zDg hu e1, zDg hu e2, ?_⟩
        rw [run_equalIn_int w (dd + 1) q.1.type .i64 .i64 _ _ hu, hk]
        congr 1
        rw [List.drop_eq_getElem_cons (show q.1.offset < l.length by omega), List.drop_eq_getElem_cons (show q.1.offset < m.length by omega)]
        simp only [List.take_succ_cons, List.take_zero, List.cons.injEq, and_true]
        have g1 : l.getD q.1.offset 0 = l[q.1.offset]'(by omega) := by simp [List.getD, show q.1.offset < l.length by omega]
        have g2 : m.getD q.1.offset 0 = m[q.1.offset]'(by omega) := by simp [List.getD, show q.1.offset < m.length by omega]
        rw [g1, g2]
        rfl
      · refine ⟨_, _, zGe ha hs, zGe ha hs, ?_⟩
        have hl1 : ((l.drop q.1.offset).take q.2).length = q.2 := by simp; omega
        have hl2 : ((m.drop q.1.offset).take q.2).length = q.2 := by simp; omega
        exact zHl dd (by rw [hl1]; exact hf) (by rw [hl1, hl2])
    obtain ⟨u, v, k1, k2, k3⟩ := key
    simp only [List.map_cons, Op.eqFields, hn, ne_eq, not_false_eq_true, if_true, Sem.run_bind, k1, k2, k3, Result.andThen_ok]
    simp only [List.all_cons]
    by_cases hv : (l.drop q.1.offset).take q.2 = (m.drop q.1.offset).take q.2
    · rw [decide_eq_true hv]
      simp only [Bool.not_true, Bool.false_eq_true, if_false, Bool.true_and]
      exact ih
    · rw [decide_eq_false hv]
      simp only [Bool.not_false, if_true, Sem.run_pure, Bool.false_and]
structure KeyTy (P : Program) (t : TypeId) (n : Nat) : Prop where
  chk : ∀ (em : Bool) (l : List Int) (w : World), l.length = n → (Instr.checkKey em 10000 t (ia l)).run P w = .ok () w
  eq : ∀ (l m : List Int) (w : World), l.length = n → m.length = n → (Op.equal t (ia l) (ia m)).run P w = .ok (decide (l = m)) w
  desc : ∃ u, P.underlying t = some u ∧ (∀ (l : List Int) (e : MapEntry) (es : List MapEntry), Instr.findNow u (ia l) (e :: es) 0 = none) ∧ ∀ (l : List Int) (w : World), (Instr.findKey t (ia l) []).run P w = .ok none w
theorem zJ3 {t : TypeId} {fs : Array Field} {k : Nat} (fq : List (Field × Nat)) (hu : P.underlying t = some (.struct fs)) (hp : P.stoodInHeld t = false) (hfs : fs.toList = fq.map Prod.fst) (hff : ∀ q ∈ fq, FF P q.1 q.2 ∧ q.1.offset + q.2 ≤ k)
    (hck : ∀ q ∈ fq, P.underlying q.1.type = some (.int .i64) ∨ ∃ el, P.underlying q.1.type = some (.array q.2 el) ∧ P.underlying el = some (.int .i64) ∧ ∀ w, (sizeOf el).run P w = .ok 1 w)
    (hcov : ∀ l m : List Int, l.length = k → m.length = k → (fq.all fun q => decide ((l.drop q.1.offset).take q.2 = (m.drop q.1.offset).take q.2)) = decide (l = m)) : KeyTy P t k := by
  refine ⟨fun em l w hl => ?_, fun l m w hl hm => ?_, ⟨_, hu, fun l e es => ?_, fun l w => ?_⟩⟩
  · have one : ∀ q ∈ fq, ∀ w, q.1.name ≠ "_" ∧ ∃ v, (part q.1.type (iv l).toArray q.1.offset).run P w = .ok v w ∧ (Instr.checkKey em 9999 q.1.type v).run P w = .ok () w := by
      intro q hq w
      obtain ⟨⟨hn, hf⟩, ho⟩ := hff q hq
      refine ⟨hn, ?_⟩
      rcases hf with ⟨hi, hk1⟩ | ⟨hf, ha, hs⟩
      · have e1 : (iv l).toArray[q.1.offset]? = some (.int .i64 (l.getD q.1.offset 0)) := by simp [show q.1.offset < l.length by omega]
        refine ⟨_, zDg hi e1, ?_⟩
        unfold Instr.checkKey
        simp [Sem.run_bind, run_underlying hi, Result.andThen]
      · refine ⟨_, zGe ha hs, ?_⟩
        rcases hck q hq with hi | ⟨el, h1, h2, h3⟩
        · exfalso
          unfold flatInts at hf
          rw [hi] at hf
          cases hf
        · exact run_checkKey (dd := 9997) h1 (by simp; omega) h2 h3
    rw [show (10000 : Nat) = 9999 + 1 from rfl, Instr.checkKey]
    unfold ia
    simp only [Sem.run_bind, run_underlying hu, Result.andThen_ok]
    rw [← Array.forIn_toList, hfs]
    have : ∀ (q : List (Field × Nat)), (∀ x ∈ q, x ∈ fq) → ∀ w, (forIn (q.map Prod.fst) PUnit.unit fun f _ => (do
        if f.name ≠ "_" then Instr.checkKey em 9999 f.type (← part f.type (iv l).toArray f.offset)
        pure (ForInStep.yield PUnit.unit) : Sem (ForInStep PUnit)) : Sem PUnit).run P w = .ok PUnit.unit w := by
      intro q
      induction q with
      | nil => intro _ w; simp
      | cons x q ih =>
        intro hx w
        obtain ⟨hn, v, h1, h2⟩ := one x (hx x (.head _)) w
        simp only [List.map_cons, List.forIn_cons, Sem.run_bind, hn, ne_eq, not_false_eq_true, if_true, h1, h2, Result.andThen_ok, Sem.run_pure]
        exact ih (fun y hy => hx y (.tail _ hy)) w
    have h := this fq (fun _ h => h) w
    exact congrArg (fun r => Result.andThen r fun a w' => Sem.run P (pure ()) w') h
  · have hfo : P.fieldsOf t = fs := by simp [Program.fieldsOf, hu]
    show (Op.equalIn ((9997 + 2) + 1) t (.agg (iv l).toArray) (.agg (iv m).toArray)).run P w = _
    rw [run_equalIn_struct w (9997 + 2) t _ _ (by rw [hfo]; exact hu) hp, hfo, hfs, zIq 9997 l m fq (fun q hq => ⟨(hff q hq).1, by have := (hff q hq).2; omega, by have := (hff q hq).2; omega⟩), hcov l m hl hm]
  · simp [Instr.findNow, Instr.sameNow]
  · simp [Instr.findKey, Sem.run_bind, run_underlying hu, Result.andThen, Instr.findNow]
theorem zJ8 {t : TypeId} {l : List Int} {k : Nat} (hK : KeyTy P t k) (hl : l.length = k) : ∀ (es : List MapEntry) (i : Nat), (∀ e ∈ es, ∃ m, m.length = k ∧ e.key = ia m) →
    ((∀ w, (Instr.findAsking t (ia l) es i).run P w = .ok none w) ∧ ∀ e ∈ es, e.key ≠ ia l) ∨ ∃ j e, (∀ w, (Instr.findAsking t (ia l) es i).run P w = .ok (some (j, e.val)) w) ∧ e ∈ es ∧ e.key = ia l
  | [], i, _ => .inl ⟨fun w => by simp [Instr.findAsking], by simp⟩
  | e :: es, i, hall => by
    obtain ⟨m, hm, hk⟩ := hall e (.head _)
    have h2 : ∀ w, (Op.equal t (ia l) e.key).run P w = .ok (decide (l = m)) w := fun w => by rw [hk]; exact hK.eq l m w hl hm
    by_cases hlm : l = m
    · rw [decide_eq_true hlm] at h2
      exact .inr ⟨i, e, fun w => by simp [Instr.findAsking, Sem.run_bind, h2, Result.andThen], .head _, by rw [hk, hlm]⟩
    · have h3 : ∀ w, (Instr.findAsking t (ia l) (e :: es) i).run P w = (Instr.findAsking t (ia l) es (i + 1)).run P w := by
        intro w
        simp [Instr.findAsking, Sem.run_bind, h2, hlm, Result.andThen]
      rcases zJ8 hK hl es (i + 1) (fun e he => hall e (.tail _ he)) with ⟨h4, h5⟩ | ⟨j, e', h4, h5, h6⟩
      · exact .inl ⟨fun w => (h3 w).trans (h4 w), fun e' he' => by
          cases he' with
          | head => rw [hk]; exact fun h => hlm (ia_inj h).symm
          | tail _ he' => exact h5 e' he'⟩
      · exact .inr ⟨j, e', fun w => (h3 w).trans (h4 w), .tail _ h5, h6⟩
theorem K_findKey {t : TypeId} {l : List Int} {k : Nat} (hK : KeyTy P t k) (hl : l.length = k) (es : List MapEntry) (hall : ∀ e ∈ es, ∃ m, m.length = k ∧ e.key = ia m) :
    ((∀ w, (Instr.findKey t (ia l) es).run P w = .ok none w) ∧ ∀ e ∈ es, e.key ≠ ia l) ∨ ∃ j e, (∀ w, (Instr.findKey t (ia l) es).run P w = .ok (some (j, e.val)) w) ∧ e ∈ es ∧ e.key = ia l := by
  obtain ⟨u, hu, hn, h0⟩ := hK.desc
  cases es with
  | nil => exact .inl ⟨h0 l, by simp⟩
  | cons e es =>
    have h : ∀ w, (Instr.findKey t (ia l) (e :: es)).run P w = (Instr.findAsking t (ia l) (e :: es) 0).run P w := fun w => by
      simp [Instr.findKey, Sem.run_bind, run_underlying hu, Result.andThen, hn l e es]
    rcases zJ8 hK hl (e :: es) 0 hall with ⟨h1, h2⟩ | ⟨j, e', h1, h2, h3⟩
    · exact .inl ⟨fun w => (h w).trans (h1 w), h2⟩
    · exact .inr ⟨j, e', fun w => (h w).trans (h1 w), h2, h3⟩
theorem K_lookupS {mt kt el : TypeId} {x y : Operand} {l : List Int} {a : Value} {m i k j : Nat} {es : Array MapEntry} {ck : Nat} {v : Value} (hU : P.underlying mt = some (.map kt el)) (hK : KeyTy P kt k) (hkl : l.length = k)
    (hst : St w0 w L) (ho : okO n x = true) (ho1 : okO n y = true) (hx : ev ρ x = .map (some m)) (hy : ev ρ y = a) (ha : a = ia l) (hi : L[i]? = some (m, .map es ck)) (hf : ∀ w, (Instr.findKey kt (ia l) es.toList).run P w = .ok (some (j, v)) w) :
    Yd P (A n ρ ds) ⟨d, .lookup mt x y true, ty, p, e, g⟩ w (.tuple #[v, .bool true]) := by
  unfold Yd
  have hc := hK.chk es.isEmpty l w hkl
  have : (Instr.lookup mt (.map (some m)) (ia l) true).run P w = .ok (.tuple #[v, .bool true]) w := by
    simp only [Instr.lookup, Sem.run_bind, run_underlying hU, Result.andThen_ok, hst.obj hi, Sem.run_pure, hc, hf, if_true]
  simp only [execOp, zB3 ho, zB3 ho1, hx, hy, ha, Sem.run_bind, this]
  rfl
theorem K_lookupN {mt kt el : TypeId} {x y : Operand} {l : List Int} {a : Value} {m i k : Nat} {es : Array MapEntry} {ck : Nat} {z : Value} (hU : P.underlying mt = some (.map kt el)) (hK : KeyTy P kt k) (hkl : l.length = k)
    (hz : ∀ w, (zeroValue el).run P w = .ok z w) (hst : St w0 w L) (ho : okO n x = true) (ho1 : okO n y = true) (hx : ev ρ x = .map (some m)) (hy : ev ρ y = a) (ha : a = ia l) (hi : L[i]? = some (m, .map es ck))
    (hf : ∀ w, (Instr.findKey kt (ia l) es.toList).run P w = .ok none w) : Yd P (A n ρ ds) ⟨d, .lookup mt x y true, ty, p, e, g⟩ w (.tuple #[z, .bool false]) := by
  unfold Yd
  have hc := hK.chk es.isEmpty l w hkl
  have : (Instr.lookup mt (.map (some m)) (ia l) true).run P w = .ok (.tuple #[z, .bool false]) w := by
    simp only [Instr.lookup, Sem.run_bind, run_underlying hU, Result.andThen_ok, hst.obj hi, Sem.run_pure, hc, hf, hz, if_true]
  simp only [execOp, zB3 ho, zB3 ho1, hx, hy, ha, Sem.run_bind, this]
  rfl
theorem K_mapAdd {mt kt el : TypeId} {x y z : Operand} {l : List Int} {a v : Value} {m i k : Nat} {es : Array MapEntry} {ck : Nat} (hw : Want ops (A n ρ ds) ⟨none, .mapUpdate mt x y z, ty, p, e, g⟩) (hU : P.underlying mt = some (.map kt el)) (hK : KeyTy P kt k) (hkl : l.length = k)
    (ho : okO n x = true) (ho1 : okO n y = true) (ho2 : okO n z = true) (hx : ev ρ x = .map (some m)) (hy : ev ρ y = a) (ha : a = ia l) (hz : ev ρ z = v) (hst : St w0 w L) (hi : L[i]? = some (m, .map es ck))
    (hf : ∀ w, (Instr.findKey kt (ia l) es.toList).run P w = .ok none w) (hk2 : ∀ w', St w0 w' (L.set i (m, .map (es.push { key := ia l, val := v, born := ck }) (ck + 1))) → WL r P ops Q rest (A n ρ ds) w') :
    WL r P ops Q (⟨none, .mapUpdate mt x y z, ty, p, e, g⟩ :: rest) (A n ρ ds) w := by
  refine w_unit hw (w' := w.putObj m (.map (es.push { key := ia l, val := v, born := ck }) (ck + 1))) ?_ rfl (hk2 _ (hst.putObj hi _))
  have hc := hK.chk false l w hkl
  have hs : (setObj m (.map (es.push { key := ia l, val := v, born := ck }) (ck + 1))).run P w = .ok () (w.putObj m (.map (es.push { key := ia l, val := v, born := ck }) (ck + 1))) := by
    simp [setObj, Sem.run, hst.get hi, World.putObj]
  have : (Instr.mapUpdate mt (.map (some m)) (ia l) v).run P w = .ok () (w.putObj m (.map (es.push { key := ia l, val := v, born := ck }) (ck + 1))) := by
    simp only [Instr.mapUpdate, Sem.run_bind, run_underlying hU, Result.andThen_ok, hst.obj hi, Sem.run_pure, hc, hf, hs]
  simp only [execOp, zB3 ho, zB3 ho1, zB3 ho2, hx, hy, ha, hz, Sem.run_bind, this]
  rfl
end
end Go.Rt
/- The walking engine, part 11: one number copied into a list at a place. No conditions. -/
namespace Go.Rt
open Go.RowKit
variable {r : Option Nat} {P : Program} {ops : Array Oper} {Q : Exit → Act → World → Prop} {rest : List Oper} {n : Nat} {ρ : Nat → Value} {ds : List Deferred} {ty : TypeId} {p : String} {e : Array Edge} {g : Option (Nat × Bool)} {w w0 : World} {L : List (Nat × Obj)}
theorem w_copy1 {d : Nat} {t el : TypeId} {i i2 : Nat} {x y : Operand} {b b2 j c c2 : Nat} {tb tb2 : TypeId} {l : List Int} {z : Int}
    (hw : Want ops (A n ρ ds) ⟨some d, .call ⟨.builtin .copy, #[x, y], #[t, t]⟩, ty, p, e, g⟩)
    (hU : P.underlying t = some (.slice el)) (hsz : ∀ w, (sizeOf el).run P w = .ok 1 w) (ho : okO n x = true) (ho1 : okO n y = true)
    (hx : ev ρ x = .slice (if c = j then some ⟨b, 0, none⟩ else (some (⟨b, 0, none⟩ : Addr)).map (·.add (j * 1))) (c - j) (c - j)) (hy : ev ρ y = .slice (some ⟨b2,0, none⟩) 1 c2)
    (hst : St w0 w L) (hi : L[i]? = some (b, blk tb (iv l))) (hi2 : L[i2]? = some (b2, blk tb2 [.int .i64 z])) (hj : j < c) (hc : l.length = c)
    (hk : ∀ w', St w0 w' (L.set i (b, blk tb (iv (l.set j z)))) → WL r P ops Q rest (A n (upd ρ d (.int .i64 1)) ds) w') :
    WL r P ops Q (⟨some d, .call ⟨.builtin .copy, #[x, y], #[t, t]⟩, ty, p, e, g⟩ :: rest) (A n ρ ds) w := by
  have hx2 : ev ρ x = .slice (some ⟨b, j, none⟩) (c - j) (c - j) := by
    rw [hx, if_neg (by omega)]
    by_cases h0 : j = 0
    · subst h0; rfl
    · simp [Addr.add, h0]
  have hm : Nat.min 1 (c - j) = 1 := Nat.min_eq_left (by omega)
  refine w_copy (xs := [.int .i64 z]) (vs := [.int .i64 z]) (k := 1) hw hU hsz ho ho1 hx2 hy hst hi (zBt (i := i2) (rows := [[.int .i64 z]]) hi2 (by simp) rfl) rfl hm.symm rfl (by simp [Value.oneCell']) (by simp; omega) (fun w' hst' => hk w' ?_)
  have : setMany (iv l) j [.int .i64 z] = iv (l.set j z) := by simp [setMany, iv, List.map_set]
  rwa [this] at hst'
theorem zBo {x y k : Nat} (h : x < k) : x >>> y < k := Nat.lt_of_le_of_lt (Nat.shiftRight_le _ _) h
end Go.Rt
set_option maxRecDepth 20000
namespace Go.Proofs.Hn
open Go.Proofs.Tryz
open Go.Rt Go.Rt.Ha
attribute [local irreducible] WL WC Con Yd At Ats Sl Agree DW
theorem Try_HC_fb0 (x0 : Int) (w : World) : (Instr.buildSlice 43 1 [(0, .int .i64 x0)].toArray).run Tryz.prog w = .ok (.slice (some ⟨w.heap.size, 0, none⟩) 1 1) (w.alloc (Go.Rt.blk 3 [.int .i64 x0])) := by kernel_rfl
theorem zHj (x0 : Int) (x1 : Go.Fn) (a1 c1 : Array Value) (w : World) : (Instr.build 157 [(0, .int .i64 x0),(1, .func x1 a1 c1)].toArray).run Tryz.prog w = .ok (.agg #[.int .i64 x0, .func x1 a1 c1]) w := by kernel_rfl
theorem Try_HC_fb2 (x0 : Int) (x1 : Go.Fn) (a1 c1 : Array Value) (x2 : Int) (x3 : Go.Fn) (a3 c3 : Array Value) (x4 : Int) (x5 : Go.Fn) (a5 c5 : Array Value) (x6 : Int) (x7 : Go.Fn) (a7 c7 : Array Value) (w : World) : (Instr.buildSlice 153 4 [(0, .agg #[.int .i64 x0, .func x1 a1 c1]),(1, .agg #[.int .i64 x2, .func x3 a3 c3]),(2, .agg #[.int .i64 x4, .func x5 a5 c5]),(3, .agg #[.int .i64 x6, .func x7 a7 c7])].toArray).run Tryz.prog w = .ok (.slice (some ⟨w.heap.size, 0, none⟩) 4 4) (w.alloc (Go.Rt.blk 157 [.int .i64 x0, .func x1 a1 c1, .int .i64 x2, .func x3 a3 c3, .int .i64 x4, .func x5 a5 c5, .int .i64 x6, .func x7 a7 c7])) := by kernel_rfl
theorem zEk {w0 : World} {F : List (Nat × Obj)} {a : Option Addr} {l : List Grade} {i : Nat} (h : Sl w0 F a 3 (grows l)) (hi : i < l.length) : ∃ b off, a = some ⟨b, off, none⟩ ∧ Ats w0 F b (off + i * 3) l[i].cells := by
  obtain ⟨b, off, ha, _, hat⟩ := h.at (i := i) (row := l[i].cells) (by simp [grows, hi])
  exact ⟨b, off, ha, hat⟩
theorem zG7 {w0 : World} {F : List (Nat × Obj)} {a : Option Addr} {l : List Bunch} {i : Nat} (h : Sl w0 F a 4 (brows l)) (hi : i < l.length) : ∃ b off, a = some ⟨b, off, none⟩ ∧ Ats w0 F b (off + i * 4) l[i].cells := by
  obtain ⟨b, off, ha, _, hat⟩ := h.at (i := i) (row := l[i].cells) (by simp [brows, hi])
  exact ⟨b, off, ha, hat⟩
theorem zKh {w0 : World} {F : List (Nat × Obj)} {a : Option Addr} {l : List Count} {i : Nat} (h : Sl w0 F a 2 (crows l)) (hi : i < l.length) : ∃ b off, a = some ⟨b, off, none⟩ ∧ Ats w0 F b (off + i * 2) l[i].cells := by
  obtain ⟨b, off, ha, _, hat⟩ := h.at (i := i) (row := l[i].cells) (by simp [crows, hi])
  exact ⟨b, off, ha, hat⟩
def fidx (p : Grade → Bool) : List Grade → Int → Int
  | [], _ => -1
  | g :: l, i => if p g then i else fidx p l (i + 1)
theorem fidx_step {p : Grade → Bool} {l : List Grade} {i : Nat} (hi : i < l.length) (h : p l[i] = false) : fidx p (l.drop i) i = fidx p (l.drop (i + 1)) (i + 1 : Nat) := by
  rw [List.drop_eq_getElem_cons hi]; simp only [fidx, h]; rfl
theorem fidx_here {p : Grade → Bool} {l : List Grade} {i : Nat} (hi : i < l.length) (h : p l[i] = true) : fidx p (l.drop i) i = i := by
  rw [List.drop_eq_getElem_cons hi]; simp only [fidx, h]; rfl
theorem fidx_end {p : Grade → Bool} {l : List Grade} {i : Nat} (hi : l.length ≤ i) : fidx p (l.drop i) i = -1 := by
  rw [List.drop_of_length_le hi]; rfl
theorem fidx_any (p : Grade → Bool) : ∀ (l : List Grade) (i : Int), 0 ≤ i → decide (0 ≤ fidx p l i) = l.any p
  | [], i, h => by simp [fidx]
  | g :: l, i, h => by
    rw [List.any_cons, ← fidx_any p l (i + 1) (by omega), Bool.eq_iff_iff]
    by_cases hp : p g = true
    · simp [fidx, hp, h]
    · simp [fidx, hp]
theorem fidx_of (h s : Int) : ∀ (l : List Grade) (i : Int), fidx (fun g => decide (g.hands ≤ h ∧ s ≤ g.scars)) l i = ofG l i h s
  | [], i => rfl
  | g :: l, i => by simp only [fidx, ofG, decide_eq_true_eq]; rw [fidx_of h s l (i + 1)]
def flawIs (bf : List Grade) (g : Grade) : Nat → Bool
  | 0 => !nmOk g.name
  | 1 => has (bf.map (·.name)) g.name
  | 2 => out 1 12 g.hands || out 0 9 g.scars
  | _ => notBelow bf g
def flawE : Nat → Int
  | 0 => 6
  | 1 => 5
  | 2 => 7
  | _ => 2
theorem gradeE_eq (bf : List Grade) (g : Grade) : gradeE bf g = if flawIs bf g 0 then 6 else if flawIs bf g 1 then 5 else if flawIs bf g 2 then 7 else if flawIs bf g 3 then 2 else 0 := by
  unfold gradeE nameE flawIs
  cases nmOk g.name <;> cases has (bf.map (·.name)) g.name <;> simp
theorem gradeE_flaw {bf : List Grade} {g : Grade} {j : Nat} (hj : j < 4) (h : flawIs bf g j = true) (hb : ∀ q < j, flawIs bf g q = false) : gradeE bf g = flawE j := by
  rw [gradeE_eq]
  match j, hj with
  | 0, _ => rw [h]; rfl
  | 1, _ => rw [hb 0 (by omega), h]; rfl
  | 2, _ => rw [hb 0 (by omega), hb 1 (by omega), h]; rfl
  | 3, _ => rw [hb 0 (by omega), hb 1 (by omega), hb 2 (by omega), h]; rfl
theorem gradeE_fine {bf : List Grade} {g : Grade} (hb : ∀ q < 4, flawIs bf g q = false) : gradeE bf g = 0 := by
  rw [gradeE_eq, hb 0 (by omega), hb 1 (by omega), hb 2 (by omega), hb 3 (by omega)]; rfl
theorem zDu {l : List Grade} {i : Nat} (hi : 0 < i) (h : i ≤ l.length) (g : Grade) : notBelow (l.take i) g = (decide ((l[i - 1]'(by omega)).hands ≤ g.hands) || decide (g.scars < (l[i - 1]'(by omega)).scars)) := by
  unfold notBelow
  rw [List.getLast?_eq_getElem?, List.length_take, Nat.min_eq_left h, List.getElem?_take, if_pos (by omega), List.getElem?_eq_getElem (by omega)]
theorem c78 {w0 w : World} {F : List (Nat × Obj)} (a : Option Addr) (l : List Grade) (c : Nat) (hla : l.length ≤ 9223372036854775807) (ha : Sl w0 F a 3 (grows l)) {fk : FuncId} (hC : CF Tryz.prog fk) (first captured : Array Value) (p : Grade → Bool)
    (hp : ∀ x ∈ l, ∀ w, St w0 w F → Con Tryz.prog fk (first.toList ++ ([.agg x.cells.toArray] ++ captured.toList)) w fun v w' => v = .bool (p x) ∧ St w0 w' F) (hs : St w0 w F) :
  Con Tryz.prog 78 [.slice a l.length c, .func (.func fk) first captured] w fun v w' => v = .int .i64 (fidx p l 0) ∧ St w0 w' F := by
  refine zAt (n := 19) func78 rfl rfl (zNl rfl) ?_
  refine zAe (fun K2 g5 => (zAa (zA5 rfl rfl (zAd (zAb (g5 _ _ (zAe (fun K4 g6 => (zAe (fun K6 g7 => (zAa (w_p (zAi (v := .slice _ _ _) rfl rfl) rfl ?_))))))))))))
  refine w_p (zA8 underlying22 rfl rfl) rfl (w_p (zAi (v := _) rfl rfl) rfl (zAd (zAb (g7 _ _ (zAw ?_)))))
  refine zBs [4,5,8,9,10,11,12,13,14,15,16,17,18] [8] (fun k vs w => ∃ i : Nat, vs = [.int .i64 i] ∧ i ≤ l.length ∧ k = l.length - i ∧ fidx p l 0 = fidx p (l.drop i) i ∧ St w0 w F) (l.length) ?_ ?_
  ·
   exact ⟨0, rfl, by omega, by omega, rfl, hs⟩
  intro k vs μ w9 hI K8 g8
  obtain ⟨i, rfl, hia, rfl, hpre, hs⟩ := hI
  refine zAe (fun gh g9 => (zAa (w_p (zBw rfl rfl rfl rfl) rfl (zAd (zAb (g9 _ _ (zAe (fun gi ga => (zAu rfl rfl (fun g0 => ?_) (fun g0 => ?_))))))))))
  ·
   try simp only [zS] at g0
   refine zAs (zAb (ga _ _ (zAe (fun gj gb => (zAw ?_)))))
   refine zAe (fun gk gc => (zAa (zAz rfl rfl (zBe rfl rfl (zAd (zAb (gc _ _ (zAe (fun gm gd => ?_)))))))))
   have hi2 : i < l.length := by omega
   obtain ⟨bx, ox, rfl, hx⟩ := zEk ha hi2
   refine zAa (w_p (zAi (v := .func _ _ _) rfl rfl) rfl (w_p (zAi (v := .slice _ _ _) rfl rfl) rfl (zAz rfl rfl (w_p (zA3 underlying22 sizeOf61 rfl rfl rfl rfl (i := _) rfl (by omega)) rfl (w_p (zA4 (vs := [_,_,_]) isAgg61 sizeOf61 hs rfl rfl hx) rfl ?_)))))
   refine zAr zAc hC rfl rfl rfl rfl (hp _ (List.getElem_mem hi2) _ hs) ?_
   rintro _ gn ⟨rfl, g3⟩
   refine zAd (zAb (gd _ _ (zAu rfl rfl (fun g4 => ?_) (fun g4 => ?_))))
   ·
    try simp only [zS] at g4
    refine zAe (fun gq gf => (zAa (zAz rfl rfl (zBe rfl rfl (zAd (zAb (gf _ _ (zAy (zAv (zAg (zAg (zAv (zAg (zA1 (l := [.tmp 4]) (vs := [_]) rfl ⟨⟨rfl, (rfl : _ = Value.int _ _)⟩, trivial⟩ ?_))))))))))))))
    first
      | exact ⟨congrArg (Value.int .i64) (hpre.trans (fidx_end (by omega))).symm, g3⟩
      | exact ⟨congrArg (Value.int .i64) (hpre.trans (fidx_here hi2 (by assumption))).symm, g3⟩
   try simp only [zS] at g4
   refine zAs (zAl (zAb (gb _ _ (zAa (w_p (zBg rfl rfl rfl rfl (by omega) (by omega)) rfl (zAz rfl rfl (zAd (zAb (g8 _ _ (nxI (l.length - (i + 1)) (by omega) ?_))))))))))
   exact ⟨i + 1, rfl, by omega, rfl, hpre.trans (fidx_step hi2 (by assumption)), g3⟩
  try simp only [zS] at g0
  refine zBl (zAm (zAm (zA0 (zAb (g6 _ _ (zAe (fun gr gg => (zAa (zA5 rfl rfl (zAd (zAb (gg _ _ (zAy (zA1 (l := [.tmp 4]) (vs := [_]) rfl ⟨⟨rfl, (rfl : _ = Value.int _ _)⟩, trivial⟩ ?_))))))))))))))
  first
    | exact ⟨congrArg (Value.int .i64) (hpre.trans (fidx_end (by omega))).symm, hs⟩
    | exact ⟨congrArg (Value.int .i64) (hpre.trans (fidx_here hi2 (by assumption))).symm, hs⟩

theorem c109 {w0 w : World} {F : List (Nat × Obj)} (a : Option Addr) (l : List Grade) (c : Nat) (hla : l.length ≤ 9223372036854775807) (ha : Sl w0 F a 3 (grows l)) {fk : FuncId} (hC : CF Tryz.prog fk) (first captured : Array Value) (p : Grade → Bool)
    (hp : ∀ x ∈ l, ∀ w, St w0 w F → Con Tryz.prog fk (first.toList ++ ([.agg x.cells.toArray] ++ captured.toList)) w fun v w' => v = .bool (p x) ∧ St w0 w' F) (hs : St w0 w F) :
  Con Tryz.prog 109 [.slice a l.length c, .func (.func fk) first captured] w fun v w' => v = .bool (l.any p) ∧ St w0 w' F := by
  refine zAt (n := 9) func109 rfl rfl (zNl rfl) ?_
  refine zAe (fun K2 g0 => (zAa (zA5 rfl rfl (zAd (zAb (g0 _ _ (zAe (fun K4 g3 => (zAa (w_p (zAi (v := .slice _ _ _) rfl rfl) rfl ?_))))))))))
  refine w_p (zAi (v := .func _ _ _) rfl rfl) rfl (zAr zAc call78 rfl rfl rfl rfl (c78 _ _ _ hla ha hC _ _ p hp hs) ?_)
  rintro _ w6 ⟨rfl, g4⟩
  refine w_p (zKa rfl rfl rfl rfl) rfl (w_p (zAo (v := .bool _) rfl rfl) rfl (zAd (zAb (g3 _ _ (zAy (zA1 (l := [.tmp 4]) (vs := [_]) rfl ⟨⟨rfl, (rfl : _ = Value.bool _)⟩, trivial⟩ ?_))))))
  exact ⟨congrArg Value.bool (fidx_any p l 0 (by omega)), g4⟩

theorem c107 {w0 w : World} {F : List (Nat × Obj)} (a : Option Addr) (c : Nat) (l : List Grade) (hl : l.length ≤ 9223372036854775807) (hc : l.length ≤ c) (ha : Sl w0 F a 3 (grows l)) (i : Nat) (hi : i < l.length) (hnm : l[i].name.size ≤ 9223372036854775807) (hs : St w0 w F) :
  Con Tryz.prog 107 [.slice a l.length c, .int .i64 (i : Int)] w fun v w' => v = .bool (flawIs (l.take i) l[i] 0) ∧ St w0 w' F := by
  refine zAt (n := 12) func107 rfl rfl (zNl rfl) ?_
  obtain ⟨bx, ox, rfl, hx⟩ := zEk ha hi
  refine zAe (fun K2 g0 => (zAa (zA5 rfl rfl (zAd (zAb (g0 _ _ (zAe (fun K4 g3 => (zAa (w_p (zAi (v := .slice _ _ _) rfl rfl) rfl ?_))))))))))
  refine zAz rfl rfl (w_p (zA3 underlying22 sizeOf61 rfl rfl rfl rfl (i := _) rfl (by omega)) rfl (w_p (zAf (o := 0) (i := 0) underlying61 rfl sizeOf9 rfl rfl rfl) rfl (w_p (zAj isAgg9 hs rfl rfl (show Ats _ _ _ _ [_] from Ats.part hx 0 1)) rfl (zAr zAc call32 rfl rfl rfl rfl (c32 _ (by omega) hs) ?_))))
  rintro _ w6 ⟨rfl, g4⟩
  refine w_p (zDz rfl rfl) rfl (w_p (zAo (v := .bool _) rfl rfl) rfl (zAd (zAb (g3 _ _ (zAy (zA1 (l := [.tmp 4]) (vs := [_]) rfl ⟨⟨rfl, (rfl : _ = Value.bool _)⟩, trivial⟩ ?_))))))
  exact ⟨rfl, g4⟩

theorem c110 {w0 w : World} {F : List (Nat × Obj)} (f : Grade) (b1 b2 : Nat) (a : Option Addr) (c : Nat) (l : List Grade) (i : Nat) (hi : i < l.length) (h1 : Ats w0 F b1 0 [.slice a l.length c]) (h2 : Ats w0 F b2 0 [.int .i64 (i : Int)]) (ha : Sl w0 F a 3 (grows l)) (hs : St w0 w F) :
  Con Tryz.prog 110 [.agg f.cells.toArray, .pointer (some ⟨b1,0, none⟩), .pointer (some ⟨b2,0, none⟩)] w fun v w' => v = .bool (decide (f.name = l[i].name)) ∧ St w0 w' F := by
  refine zAt (n := 13) func110 rfl rfl (zNl rfl) ?_
  obtain ⟨bx, ox, rfl, hx⟩ := zEk ha hi
  refine zAe (fun K2 g3 => (zAa (zCa (v := .agg #[.string _, .int _ _, .int _ _]) (cs := [_,_,_]) zAc rfl rfl rfl hs (fun b3 w4 g4 => ?_))))
  refine zA5 rfl rfl (zAd (zAb (g3 _ _ (zAe (fun K7 g5 => (zCn [] [(0,0),(1,1),(2,1),(3,1),(4,0),(5,0),(6,1),(7,0),(8,0)] zCb (by kernel_rfl) g4 (fun w8 g0 => ?_)))))))
  refine d_w rfl (fun _ => zAf (o := 0) (i := 0) underlying61 rfl sizeOf9 rfl rfl rfl) rfl ?_
  refine zBd rfl zAc rfl g0 (fun _ hq => (zAj isAgg9 hq rfl rfl (zAk (i := 0) (vs := [_]) rfl rfl))) ?_
  refine zBd rfl zAc rfl g0 (fun _ hq => (zAj isAgg22 hq.tail rfl rfl h1)) ?_
  refine zBd rfl zAc rfl g0 (fun _ hq => (zAj isAgg3 hq.tail rfl rfl h2)) ?_
  refine d_w rfl (fun _ => zA3 underlying22 sizeOf61 rfl rfl rfl rfl (i := _) rfl (by omega)) rfl ?_
  refine d_w rfl (fun _ => zAf (o := 0) (i := 0) underlying61 rfl sizeOf9 rfl rfl rfl) rfl ?_
  refine zBd rfl zAc rfl g0 (fun _ hq => (zAj isAgg9 hq.tail rfl rfl (show Ats _ _ _ _ [_] from Ats.part hx 0 1))) ?_
  refine d_w rfl (fun _ => y_strEq rfl rfl rfl rfl) rfl ?_
  refine d_w rfl (fun _ => zAo (v := .bool _) rfl rfl) rfl ?_
  refine zCf ?_
  refine zAb (g5 _ _ (zAy (zA1 (l := [.tmp 4]) (vs := [_]) rfl ⟨⟨rfl, (rfl : _ = Value.bool _)⟩, trivial⟩ ?_)))
  exact ⟨rfl, g0.tail⟩

theorem sl_takeG {w0 : World} {F : List (Nat × Obj)} {a : Option Addr} {l : List Grade} {i c : Nat} (h : Sl w0 F a 3 (grows l)) (hi : i ≤ l.length) (hc : l.length ≤ c) : Sl w0 F (if c = 0 then a else a.map (·.add (0 * 3))) 3 (grows (l.take i)) := by
  have := h.cut (l' := 0) (h' := i) (c := c) (by omega) (by simpa [grows] using hi) (by simpa [grows] using hc)
  simpa [grows, List.map_take] using this
theorem has_names (l : List Grade) (s : ByteArray) : (l.any fun x => decide (x.name = s)) = has (l.map (·.name)) s := by
  simp [has, List.any_map, Function.comp_def]
theorem c108 {w0 w : World} {F : List (Nat × Obj)} (a : Option Addr) (c : Nat) (l : List Grade) (hl : l.length ≤ 9223372036854775807) (hc : l.length ≤ c) (ha : Sl w0 F a 3 (grows l)) (i : Nat) (hi : i < l.length) (hs : St w0 w F) :
  Con Tryz.prog 108 [.slice a l.length c, .int .i64 (i : Int)] w fun v w' => v = .bool (flawIs (l.take i) l[i] 1) ∧ St w0 w' F := by
  refine zAt (n := 10) func108 rfl rfl (zNl rfl) ?_
  refine zAe (fun K2 g3 => (zAa (zCa (v := .slice _ _ _) (cs := [_]) zAc rfl rfl rfl hs (fun b3 w4 g4 => ?_))))
  refine zCa (v := .int _ _) (cs := [_]) zAc rfl rfl rfl g4 (fun b6 w7 g0 => ?_)
  refine zA5 rfl rfl (zAd (zAb (g3 _ _ (zAe (fun g7 g5 => (zAa (w_p (zAj isAgg22 g0 rfl rfl (zAk (i := 1) (vs := [_]) rfl rfl)) rfl (w_p (zAj isAgg3 g0 rfl rfl (zAk (i := 0) (vs := [_]) rfl rfl)) rfl ?_))))))))
  refine w_p (y_sliceS (l' := 0) (h' := i) underlying22 sizeOf61 rfl rfl rfl ⟨rfl, _,_, rfl, rfl⟩ (by omega) (by omega)) rfl (w_p (zCc (fv := []) (cv := [_,_]) rfl rfl rfl rfl) rfl (zAr zAc call109 rfl rfl rfl rfl ((show Con Tryz.prog 109 [.slice (if c = 0 then a else a.map (·.add (0 * 3))) (i - 0) (c - 0), _] _ _ from by rw [Nat.sub_zero, show (i = (l.take i).length) from by rw [List.length_take]; omega]; exact c109 _ (l.take i) _ (by rw [List.length_take]; omega) (sl_takeG ha.cons.cons (by omega) hc) call110 _ _ (fun x => decide (x.name = l[i].name)) (fun x _ w hs => c110 _ _ _ _ _ _ _ hi (zAk (i := 1) (vs := [_]) rfl rfl) (zAk (i := 0) (vs := [_]) rfl rfl) ha.cons.cons hs) g0)) ?_))
  rintro _ g8 ⟨rfl, g6⟩
  refine w_p (zAo (v := .bool _) rfl rfl) rfl (zAd (zAb (g5 _ _ (zAy (zA1 (l := [.tmp 4]) (vs := [_]) rfl ⟨⟨rfl, (rfl : _ = Value.bool _)⟩, trivial⟩ ?_)))))
  exact ⟨congrArg Value.bool (has_names _ _), g6.tail.tail⟩

theorem c111 {w0 w : World} {F : List (Nat × Obj)} (a : Option Addr) (c : Nat) (l : List Grade) (hl : l.length ≤ 9223372036854775807) (hc : l.length ≤ c) (ha : Sl w0 F a 3 (grows l)) (i : Nat) (hi : i < l.length) (hs : St w0 w F) :
  Con Tryz.prog 111 [.slice a l.length c, .int .i64 (i : Int)] w fun v w' => v = .bool (flawIs (l.take i) l[i] 2) ∧ St w0 w' F := by
  refine zAt (n := 21) func111 rfl rfl (zNl rfl) ?_
  obtain ⟨bx, ox, rfl, hx⟩ := zEk ha hi
  refine zAe (fun K2 g5 => (zAa (zA5 rfl rfl (zAd (zAb (g5 _ _ (zAe (fun K4 g4 => (zAa (w_p (zAi (v := .slice _ _ _) rfl rfl) rfl ?_))))))))))
  refine zAz rfl rfl (w_p (zA3 underlying22 sizeOf61 rfl rfl rfl rfl (i := _) rfl (by omega)) rfl (w_p (zAf (o := 1) (i := 1) underlying61 rfl sizeOf3 rfl rfl rfl) rfl (w_p (zAj isAgg3 hs rfl rfl (show Ats _ _ _ _ [_] from Ats.part hx 1 1)) rfl (zBb (ps := [(0, _)]) (pv := [(0, .int _ _)]) (cs := [_]) zAc rfl rfl (fun w => Try_HC_fb0 _ w) hs (fun b5 w6 g6 => ?_)))))
  refine zAr zAc call57 rfl rfl rfl rfl (c57 _ _ _ [_] _ (by simp) (zBt (i := 0) (rows := [[_]]) rfl (by simp) rfl) g6) ?_
  rintro _ w9 ⟨rfl, g3⟩
  refine w_p (zAi (v := .bool _) rfl rfl) rfl (zBi (fun g0 => ?_) (fun g0 => ?_))
  ·
   try simp only [zS] at g0
   refine zAh rfl rfl rfl ?_
   refine zAh rfl rfl rfl ?_
   refine zAh rfl rfl rfl ?_
   refine zAh rfl rfl rfl ?_
   refine zAh rfl rfl rfl ?_
   refine zAh rfl rfl rfl ?_
   refine zAh rfl rfl rfl ?_
   refine w_p (zAx (v := _) rfl rfl rfl rfl) rfl (w_p (zAo (v := .bool _) rfl rfl) rfl (zAd (zAb (g4 _ _ (zAy (zA1 (l := [.tmp 4]) (vs := [_]) rfl ⟨⟨rfl, (rfl : _ = Value.bool _)⟩, trivial⟩ ?_))))))
   try simp only [List.any_cons, List.any_nil, Bool.or_false, Bool.or_eq_false_iff] at g0
   exact ⟨congrArg Value.bool (by simp [flawIs, g0]), g3.tail⟩
  try simp only [zS] at g0
  refine w_y rfl rfl rfl (zAi (v := .slice _ _ _) rfl rfl) rfl ?_
  refine w_y rfl rfl rfl (zA2 rfl rfl) rfl ?_
  refine w_y rfl rfl rfl (zA3 underlying22 sizeOf61 rfl rfl rfl rfl (i := _) rfl (by omega)) rfl ?_
  refine w_y rfl rfl rfl (zAf (o := 2) (i := 2) underlying61 rfl sizeOf3 rfl rfl rfl) rfl ?_
  refine w_y rfl rfl rfl (zAj isAgg3 g3.tail rfl rfl (show Ats _ _ _ _ [_] from Ats.part hx 2 1)) rfl ?_
  refine zBb (ps := [(0, _)]) (pv := [(0, .int _ _)]) (cs := [_]) (zAq rfl rfl rfl) rfl rfl (fun w => Try_HC_fb0 _ w) g3 (fun g9 ga g7 => ?_)
  refine zAr (zAq rfl rfl rfl) call57 rfl rfl rfl rfl (c57 _ _ _ [_] _ (by simp) (zBt (i := 0) (rows := [[_]]) rfl (by simp) rfl) g7) ?_
  rintro _ gb ⟨rfl, g8⟩
  refine w_p (zA9 (v := .bool _) rfl rfl rfl rfl) rfl (w_p (zAo (v := .bool _) rfl rfl) rfl (zAd (zAb (g4 _ _ (zAy (zA1 (l := [.tmp 4]) (vs := [_]) rfl ⟨⟨rfl, (rfl : _ = Value.bool _)⟩, trivial⟩ ?_))))))
  try simp only [List.any_cons, List.any_nil, Bool.or_false, Bool.or_eq_false_iff] at g0
  exact ⟨congrArg Value.bool (by simp [flawIs, g0]), g8.tail.tail⟩

theorem c112 {w0 w : World} {F : List (Nat × Obj)} (a : Option Addr) (c : Nat) (l : List Grade) (hl : l.length ≤ 9223372036854775807) (hc : l.length ≤ c) (ha : Sl w0 F a 3 (grows l)) (i : Nat) (hi : i < l.length) (hs : St w0 w F) :
  Con Tryz.prog 112 [.slice a l.length c, .int .i64 (i : Int)] w fun v w' => v = .bool (flawIs (l.take i) l[i] 3) ∧ St w0 w' F := by
  refine zAt (n := 35) func112 rfl rfl (zNl rfl) ?_
  obtain ⟨bx, ox, rfl, hx⟩ := zEk ha hi
  refine zAe (fun K2 g4 => (zAa (zA5 rfl rfl (zAd (zAb (g4 _ _ (zAe (fun K4 g3 => (zCn [] [(0,0),(1,0),(2,0),(3,0),(4,0),(5,0),(6,0),(7,1),(8,0),(9,0),(10,0),(11,0),(12,0),(13,1),(14,0),(15,0),(16,0),(17,0),(18,0),(19,0),(20,1),(21,0),(22,0),(23,0),(24,0),(25,0),(26,1),(27,0),(28,0),(29,0),(30,0)] zCb (by kernel_rfl) hs (fun w5 g0 => ?_))))))))))
  refine d_w rfl (fun _ => zA2 rfl rfl) rfl ?_
  refine d_w rfl (fun _ => zD5 rfl rfl rfl rfl) rfl ?_
  refine d_w rfl (fun _ => zAi (v := .bool _) rfl rfl) rfl ?_
  refine zEw (fun h7 => ?_) (fun h7 => ?_)
  ·
   try simp only [zS] at h7
   have h0 : 0 < i := by omega
   obtain ⟨by_, oy, hby, hy⟩ := zEk ha (show i - 1 < l.length by omega)
   cases hby
   refine zBn rfl (zAq rfl rfl rfl) rfl (fun _ => (zAi (v := .slice _ _ _) rfl rfl)) ?_
   refine zBn rfl (zAq rfl rfl rfl) rfl (fun _ => (zA2 rfl rfl)) ?_
   refine zBn rfl (zAq rfl rfl rfl) rfl (fun _ => (zA3 underlying22 sizeOf61 rfl rfl rfl rfl (i := _) rfl (by omega))) ?_
   refine zBn rfl (zAq rfl rfl rfl) rfl (fun _ => (zAf (o := 1) (i := 1) underlying61 rfl sizeOf3 rfl rfl rfl)) ?_
   refine zBd rfl (zAq rfl rfl rfl) rfl g0 (fun _ hq => (zAj isAgg3 hq rfl rfl (show Ats _ _ _ _ [_] from Ats.part hx 1 1))) ?_
   refine zBn rfl (zAq rfl rfl rfl) rfl (fun _ => (zAi (v := .slice _ _ _) rfl rfl)) ?_
   refine zBn rfl (zAq rfl rfl rfl) rfl (fun _ => (zA2 rfl rfl)) ?_
   refine zBn rfl (zAq rfl rfl rfl) rfl (fun _ => (zE0 rfl rfl rfl rfl (by omega) (by omega))) ?_
   refine zBn rfl (zAq rfl rfl rfl) rfl (fun _ => (zA3 underlying22 sizeOf61 rfl rfl rfl rfl (i := i - 1) (by omega) (by omega))) ?_
   refine zBn rfl (zAq rfl rfl rfl) rfl (fun _ => (zAf (o := 1) (i := 1) underlying61 rfl sizeOf3 rfl rfl rfl)) ?_
   refine zBd rfl (zAq rfl rfl rfl) rfl g0 (fun _ hq => (zAj isAgg3 hq rfl rfl (show Ats _ _ _ _ [_] from Ats.part hy 1 1))) ?_
   refine zBn rfl (zAq rfl rfl rfl) rfl (fun _ => (zKa rfl rfl rfl rfl)) ?_
   refine zBn rfl (zAq rfl rfl rfl) rfl (fun _ => (zAi (v := .bool _) rfl rfl)) ?_
   refine zEw (fun h8 => ?_) (fun h8 => ?_)
   ·
    try simp only [zS] at h8
    refine zBj rfl rfl rfl rfl ?_
    refine zBj rfl rfl rfl rfl ?_
    refine zBj rfl rfl rfl rfl ?_
    refine zBj rfl rfl rfl rfl ?_
    refine zC6 rfl rfl rfl rfl g0 ?_
    refine zBj rfl rfl rfl rfl ?_
    refine zBj rfl rfl rfl rfl ?_
    refine zBj rfl rfl rfl rfl ?_
    refine zBj rfl rfl rfl rfl ?_
    refine zBj rfl rfl rfl rfl ?_
    refine zC6 rfl rfl rfl rfl g0 ?_
    refine zBj rfl rfl rfl rfl ?_
    refine zBn rfl (zAq rfl rfl rfl) rfl (fun _ => (zAx (v := _) rfl rfl rfl rfl)) ?_
    refine d_w rfl (fun _ => zAx (v := .bool _) rfl rfl rfl rfl) rfl ?_
    refine d_w rfl (fun _ => zAo (v := .bool _) rfl rfl) rfl ?_
    refine zCf ?_
    refine zAb (g3 _ _ (zAy (zA1 (l := [.tmp 4]) (vs := [_]) rfl ⟨⟨rfl, (rfl : _ = Value.bool _)⟩, trivial⟩ ?_)))
    first
      | (have hi0 : i = 0 := by omega
         subst hi0
         exact ⟨congrArg Value.bool (show false = notBelow (l.take 0) l[0] from rfl), g0⟩)
      | exact ⟨congrArg Value.bool (by show _ = notBelow _ _; rw [zDu h0 (by omega), Bool.eq_iff_iff]; simp [h7, h8] <;> omega), g0⟩
   try simp only [zS] at h8
   refine zBn rfl (zAq rfl rfl rfl) rfl (fun _ => (zAi (v := .slice _ _ _) rfl rfl)) ?_
   refine zBn rfl (zAq rfl rfl rfl) rfl (fun _ => (zA2 rfl rfl)) ?_
   refine zBn rfl (zAq rfl rfl rfl) rfl (fun _ => (zA3 underlying22 sizeOf61 rfl rfl rfl rfl (i := _) rfl (by omega))) ?_
   refine zBn rfl (zAq rfl rfl rfl) rfl (fun _ => (zAf (o := 2) (i := 2) underlying61 rfl sizeOf3 rfl rfl rfl)) ?_
   refine zBd rfl (zAq rfl rfl rfl) rfl g0 (fun _ hq => (zAj isAgg3 hq rfl rfl (show Ats _ _ _ _ [_] from Ats.part hx 2 1))) ?_
   refine zBn rfl (zAq rfl rfl rfl) rfl (fun _ => (zAi (v := .slice _ _ _) rfl rfl)) ?_
   refine zBn rfl (zAq rfl rfl rfl) rfl (fun _ => (zA2 rfl rfl)) ?_
   refine zBn rfl (zAq rfl rfl rfl) rfl (fun _ => (zE0 rfl rfl rfl rfl (by omega) (by omega))) ?_
   refine zBn rfl (zAq rfl rfl rfl) rfl (fun _ => (zA3 underlying22 sizeOf61 rfl rfl rfl rfl (i := i - 1) (by omega) (by omega))) ?_
   refine zBn rfl (zAq rfl rfl rfl) rfl (fun _ => (zAf (o := 2) (i := 2) underlying61 rfl sizeOf3 rfl rfl rfl)) ?_
   refine zBd rfl (zAq rfl rfl rfl) rfl g0 (fun _ hq => (zAj isAgg3 hq rfl rfl (show Ats _ _ _ _ [_] from Ats.part hy 2 1))) ?_
   refine zBn rfl (zAq rfl rfl rfl) rfl (fun _ => (zBw rfl rfl rfl rfl)) ?_
   refine zBn rfl (zAq rfl rfl rfl) rfl (fun _ => (zA9 (v := .bool _) rfl rfl rfl rfl)) ?_
   refine d_w rfl (fun _ => zAx (v := .bool _) rfl rfl rfl rfl) rfl ?_
   refine d_w rfl (fun _ => zAo (v := .bool _) rfl rfl) rfl ?_
   refine zCf ?_
   refine zAb (g3 _ _ (zAy (zA1 (l := [.tmp 4]) (vs := [_]) rfl ⟨⟨rfl, (rfl : _ = Value.bool _)⟩, trivial⟩ ?_)))
   first
     | (have hi0 : i = 0 := by omega
        subst hi0
        exact ⟨congrArg Value.bool (show false = notBelow (l.take 0) l[0] from rfl), g0⟩)
     | exact ⟨congrArg Value.bool (by show _ = notBelow _ _; rw [zDu h0 (by omega), Bool.eq_iff_iff]; simp [h7, h8] <;> omega), g0⟩
  try simp only [zS] at h7
  refine zBj rfl rfl rfl rfl ?_
  refine zBj rfl rfl rfl rfl ?_
  refine zBj rfl rfl rfl rfl ?_
  refine zBj rfl rfl rfl rfl ?_
  refine zC6 rfl rfl rfl rfl g0 ?_
  refine zBj rfl rfl rfl rfl ?_
  refine zBj rfl rfl rfl rfl ?_
  refine zBj rfl rfl rfl rfl ?_
  refine zBj rfl rfl rfl rfl ?_
  refine zBj rfl rfl rfl rfl ?_
  refine zC6 rfl rfl rfl rfl g0 ?_
  refine zBj rfl rfl rfl rfl ?_
  refine zBj rfl rfl rfl rfl ?_
  refine zCw rfl rfl rfl rfl ?_
  refine zCw rfl rfl rfl rfl ?_
  refine zCw rfl rfl rfl rfl ?_
  refine zCw rfl rfl rfl rfl ?_
  refine zEx rfl rfl rfl rfl g0 ?_
  refine zCw rfl rfl rfl rfl ?_
  refine zCw rfl rfl rfl rfl ?_
  refine zCw rfl rfl rfl rfl ?_
  refine zCw rfl rfl rfl rfl ?_
  refine zCw rfl rfl rfl rfl ?_
  refine zEx rfl rfl rfl rfl g0 ?_
  refine zCw rfl rfl rfl rfl ?_
  refine zBj rfl rfl rfl rfl ?_
  refine d_w rfl (fun _ => zA9 (v := _) rfl rfl rfl rfl) rfl ?_
  refine d_w rfl (fun _ => zAo (v := .bool _) rfl rfl) rfl ?_
  refine zCf ?_
  refine zAb (g3 _ _ (zAy (zA1 (l := [.tmp 4]) (vs := [_]) rfl ⟨⟨rfl, (rfl : _ = Value.bool _)⟩, trivial⟩ ?_)))
  first
    | (have hi0 : i = 0 := by omega
       subst hi0
       exact ⟨congrArg Value.bool (show false = notBelow (l.take 0) l[0] from rfl), g0⟩)
    | exact ⟨congrArg Value.bool (by show _ = notBelow _ _; rw [zDu h0 (by omega), Bool.eq_iff_iff]; simp [h7] <;> omega), g0⟩

def flawK : Nat → Nat
  | 0 => 107
  | 1 => 108
  | 2 => 111
  | _ => 112
def flawCells : List Value := [.int .i64 6, .func (.func 107) #[] #[], .int .i64 5, .func (.func 108) #[] #[], .int .i64 7, .func (.func 111) #[] #[], .int .i64 2, .func (.func 112) #[] #[]]
theorem flaw_at {w0 : World} {L : List (Nat × Obj)} {b i j : Nat} (hi : L[i]? = some (b, blk 157 flawCells)) (hj : j < 4) : Ats w0 L b (0 + j * 2) [.int .i64 (flawE j), .func (.func (flawK j)) #[] #[]] := by
  match j, hj with
  | 0, _ => exact zAk hi rfl
  | 1, _ => exact zAk hi rfl
  | 2, _ => exact zAk hi rfl
  | 3, _ => exact zAk hi rfl
theorem flaw_con {w0 w : World} {F : List (Nat × Obj)} (a : Option Addr) (c : Nat) (l : List Grade) (hl : l.length ≤ 9223372036854775807) (hc : l.length ≤ c) (ha : Sl w0 F a 3 (grows l)) (i : Nat) (hi : i < l.length) (hnm : l[i].name.size ≤ 9223372036854775807) (j : Nat) (hj : j < 4) (hs : St w0 w F) :
    FCon Tryz.prog (.func (.func (flawK j)) #[] #[]) [.slice a l.length c, .int .i64 (i : Int)] w fun v w' => v = .bool (flawIs (l.take i) l[i] j) ∧ St w0 w' F := by
  match j, hj with
  | 0, _ => exact zDd call107 (c107 a c l hl hc ha i hi hnm hs)
  | 1, _ => exact zDd call108 (c108 a c l hl hc ha i hi hs)
  | 2, _ => exact zDd call111 (c111 a c l hl hc ha i hi hs)
  | 3, _ => exact zDd call112 (c112 a c l hl hc ha i hi hs)
theorem c91 {w0 w : World} {F : List (Nat × Obj)}  (hs : St w0 w F) :
  Con Tryz.prog 91 [] w fun v w' => ∃ b, v = .slice (some ⟨b, 0, none⟩) 4 4 ∧ St w0 w' ((b, blk 157 flawCells) :: F) := by
  refine zAt (n := 6) func91 rfl rfl (zNl rfl) ?_
  refine zAe (fun K2 g0 => (zAa (zA5 rfl rfl (zAd (zAb (g0 _ _ (zAe (fun K4 g3 => (zAa (w_p (zBv (ps := [(0, _),(1, _)]) (pv := [(0, .int _ _),(1, .func _ _ _)]) rfl rfl (fun w => zHj _ _ _ _ w)) rfl ?_))))))))))
  refine w_p (zBv (ps := [(0, _),(1, _)]) (pv := [(0, .int _ _),(1, .func _ _ _)]) rfl rfl (fun w => zHj _ _ _ _ w)) rfl (w_p (zBv (ps := [(0, _),(1, _)]) (pv := [(0, .int _ _),(1, .func _ _ _)]) rfl rfl (fun w => zHj _ _ _ _ w)) rfl ?_)
  refine w_p (zBv (ps := [(0, _),(1, _)]) (pv := [(0, .int _ _),(1, .func _ _ _)]) rfl rfl (fun w => zHj _ _ _ _ w)) rfl (zBb (ps := [(0, _),(1, _),(2, _),(3, _)]) (pv := [(0, .agg #[.int _ _, .func _ _ _]),(1, .agg #[.int _ _, .func _ _ _]),(2, .agg #[.int _ _, .func _ _ _]),(3, .agg #[.int _ _, .func _ _ _])]) (cs := [_,_,_,_,_,_,_,_]) zAc rfl rfl (fun w => Try_HC_fb2 _ _ _ _ _ _ _ _ _ _ _ _ _ _ _ _ w) hs (fun b5 w6 g4 => ?_))
  refine w_p (zAo (v := .slice _ _ _) rfl rfl) rfl (zAd (zAb (g3 _ _ (zAy (zA1 (l := [.tmp 0]) (vs := [_]) rfl ⟨⟨rfl, show _ = (.slice _ _ _ : Value) from rfl⟩, trivial⟩ ?_)))))
  exact ⟨_, rfl, g4⟩

end Go.Proofs.Hn
